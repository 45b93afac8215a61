/- Laws and walks: my templates, and what a program of mine (gen.py) printed out of the functions; only what the row reaches. -/
import Derived.Test.YtldnkinaedgnpaaVH2
section
namespace Go.Dw.J
open Go.RowKit Go.Dw Go.Proofs
set_option linter.unusedSectionVars false
set_option maxRecDepth 100000
set_option maxHeartbeats 4000000
set_option linter.unusedSimpArgs false
set_option linter.unusedVariables false
theorem K4 [Comp] (m : MTh) (w : World) (hs : SlAt w m.sa 5 (m.t.slots.map Rt.cells)) (hq : SlAt w m.qa 1 (m.t.queue.map icell)) (hsl : m.t.slots.length ≤ 9223372036854775806) (hql : m.t.queue.length ≤ 9223372036854775806) : CallsR Try.prog 45 #[.agg #[.int .i64 m.t.kind, .int .i64 m.t.lab.s, .int .i64 m.t.lab.v, .int .i64 m.t.ve, .int .i64 m.t.num, .slice m.sa m.t.slots.length m.sc, .slice m.qa m.t.queue.length m.qc, .int .i64 m.t.to]] w (fun v w' => v = .bool (thingOk m.t) ∧ w.grownBy w' none) := by
 refine Xp (n := 144) Try.func45 rfl Try.ntmps45 rfl ?_
 have hb0 := World.grownBy.refl w none
 refine Xa ?_
 refine wpo_box (v := .agg #[.int .i64 m.t.kind, .int .i64 m.t.lab.s, .int .i64 m.t.lab.v, .int .i64 m.t.ve, .int .i64 m.t.num, .slice m.sa m.t.slots.length m.sc, .slice m.qa m.t.queue.length m.qc, .int .i64 m.t.to]) (cs := #[.int .i64 m.t.kind, .int .i64 m.t.lab.s, .int .i64 m.t.lab.v, .int .i64 m.t.ve, .int .i64 m.t.num, .slice m.sa m.t.slots.length m.sc, .slice m.qa m.t.queue.length m.qc, .int .i64 m.t.to]) rfl rfl rfl ?_
 intro B101 w102 hN103
 have hlB101 := X1 hN103 hb0
 have hb104 := low0 hb0 hN103.grw
 refine wpo_assign (v := .bool false) rfl rfl ?_
 refine wpo_nil ?_
 refine Xi ?_
 refine Xs (fun f' w' => (f' 1 = .pointer (some ⟨B101, 0, none⟩) ∧ f' 2 = .bool false ∧ f' 27 = .bool ((((!inR m.t.kind 1 5) || (!labelOk m.t.lab)) || (!inR m.t.ve 0 5)) || (decide (3 < (m.t.queue.length : Int))))) ∧ w102.grownBy w' none) ?_ ?_
 ·
  refine wpo_fieldAddr (o' := 0) X9 rfl rfl rfl ?_
  refine wpo_load1 (v := .int .i64 m.t.kind) X0 rfl (hN103.blk.cell rfl) rfl ?_
  refine Xh (vs := [.int .i64 m.t.kind, .int .i64 1, .int .i64 5]) V2 (Xb rfl (Xb rfl (Xb rfl Xg))) rfl (Kz m.t.kind 1 5 _) ?_
  rintro _ w120 ⟨rfl, hg121⟩
  have hb122 := low0 hb104 hg121
  refine wpo_not (b' := !inR m.t.kind 1 5) rfl rfl rfl ?_
  refine wpo_move (v := .bool (!inR m.t.kind 1 5)) rfl rfl ?_
  rcases Xy (!inR m.t.kind 1 5) with h123 | h123
  ·
   have h124 := Q3 h123
   iterate 4 refine Xe rfl rfl rfl h123 rfl ?_
   refine wpo_pickt (v := .bool true) rfl h123 rfl rfl ?_
   refine wpo_move (v := .bool true) rfl rfl ?_
   iterate 4 refine Xe rfl rfl rfl rfl rfl ?_
   refine wpo_pickt (v := .bool true) rfl rfl rfl rfl ?_
   refine wpo_move (v := .bool true) rfl rfl ?_
   iterate 4 refine Xe rfl rfl rfl rfl rfl ?_
   refine wpo_pickt (v := .bool true) rfl rfl rfl rfl ?_
   exact wpo_nil ⟨⟨rfl, rfl, (congrArg Value.bool (by first | (simp only [h123, h124, b0, b1, b2, b3, b4, b5, b6, b7, b8, b9]; done) | simp [h123, h124]))⟩, hg121⟩
  ·
   have h125 := Y9 h123
   refine Xc rfl rfl rfl h123 ?_
   refine wpo_fieldAddr (o' := 1) J7 rfl rfl rfl ?_
   refine Xc rfl rfl rfl h123 ?_
   have k126 := (hN103.blk.grown0 hg121)
   refine wpo_loadn (vs := [.int .i64 m.t.lab.s, .int .i64 m.t.lab.v]) Yr rfl rfl (k126.rangeL 1 2 rfl) rfl ?_
   refine Xc rfl rfl rfl h123 ?_
   refine Xh (vs := [.agg #[.int .i64 m.t.lab.s, .int .i64 m.t.lab.v]]) El (Xb rfl Xg) rfl (U5 m.t.lab _) ?_
   rintro _ w127 ⟨rfl, hg128⟩
   have hb129 := low0 hb122 hg128
   refine Xc rfl rfl rfl h123 ?_
   refine wpo_not (b' := !labelOk m.t.lab) rfl rfl rfl ?_
   refine wpo_pickf (v := .bool (!labelOk m.t.lab)) rfl h123 rfl rfl ?_
   refine wpo_move (v := .bool (!labelOk m.t.lab)) rfl rfl ?_
   rcases Xy (!labelOk m.t.lab) with h130 | h130
   ·
    have h131 := Q3 h130
    iterate 4 refine Xe rfl rfl rfl h130 rfl ?_
    refine wpo_pickt (v := .bool true) rfl h130 rfl rfl ?_
    refine wpo_move (v := .bool true) rfl rfl ?_
    iterate 4 refine Xe rfl rfl rfl rfl rfl ?_
    refine wpo_pickt (v := .bool true) rfl rfl rfl rfl ?_
    exact wpo_nil ⟨⟨rfl, rfl, (congrArg Value.bool (by first | (simp only [h123, h125, h130, h131, b0, b1, b2, b3, b4, b5, b6, b7, b8, b9]; done) | simp [h123, h125, h130, h131]))⟩, (Xf hg121 hg128)⟩
   ·
    have h132 := Y9 h130
    refine Xc rfl rfl rfl h130 ?_
    refine wpo_fieldAddr (o' := 3) Qw rfl rfl rfl ?_
    refine Xc rfl rfl rfl h130 ?_
    have k133 := (k126.grown0 hg128)
    refine wpo_load1 (v := .int .i64 m.t.ve) X0 rfl (k133.cell rfl) rfl ?_
    refine Xc rfl rfl rfl h130 ?_
    refine Xh (vs := [.int .i64 m.t.ve, .int .i64 0, .int .i64 5]) V2 (Xb rfl (Xb rfl (Xb rfl Xg))) rfl (Kz m.t.ve 0 5 _) ?_
    rintro _ w134 ⟨rfl, hg135⟩
    have hb136 := low0 hb129 hg135
    refine Xc rfl rfl rfl h130 ?_
    refine wpo_not (b' := !inR m.t.ve 0 5) rfl rfl rfl ?_
    refine wpo_pickf (v := .bool (!inR m.t.ve 0 5)) rfl h130 rfl rfl ?_
    refine wpo_move (v := .bool (!inR m.t.ve 0 5)) rfl rfl ?_
    rcases Xy (!inR m.t.ve 0 5) with h137 | h137
    ·
     have h138 := Q3 h137
     iterate 4 refine Xe rfl rfl rfl h137 rfl ?_
     refine wpo_pickt (v := .bool true) rfl h137 rfl rfl ?_
     exact wpo_nil ⟨⟨rfl, rfl, (congrArg Value.bool (by first | (simp only [h123, h125, h130, h132, h137, h138, b0, b1, b2, b3, b4, b5, b6, b7, b8, b9]; done) | simp [h123, h125, h130, h132, h137, h138]))⟩, (Xf (Xf hg121 hg128) hg135)⟩
    ·
     have h139 := Y9 h137
     refine Xc rfl rfl rfl h137 ?_
     refine wpo_fieldAddr (o' := 6) Qk rfl rfl rfl ?_
     refine Xc rfl rfl rfl h137 ?_
     have k140 := (k133.grown0 hg135)
     refine wpo_load1 (v := .slice m.qa m.t.queue.length m.qc) Jo rfl (k140.cell rfl) rfl ?_
     refine Xc rfl rfl rfl h137 ?_
     refine wpo_len (by kernel_rfl) rfl rfl ?_
     refine Xc rfl rfl rfl h137 ?_
     refine wpo_gtr (q := decide (3 < (m.t.queue.length : Int))) rfl rfl rfl rfl ?_
     refine wpo_pickf (v := .bool (decide (3 < (m.t.queue.length : Int)))) rfl h137 rfl rfl ?_
     exact wpo_nil ⟨⟨rfl, rfl, (congrArg Value.bool (by first | (simp only [h123, h125, h130, h132, h137, h139, b0, b1, b2, b3, b4, b5, b6, b7, b8, b9]; done) | simp [h123, h125, h130, h132, h137, h139]))⟩, (Xf (Xf hg121 hg128) hg135)⟩
 ·
  rintro f141 w142 ⟨⟨e143, e144, e145⟩, hg146⟩
  have hb147 := low0 hb104 hg146
  refine Xq e145 (fun h148 => ?_) (fun h148 => ?_)
  ·
   refine Xa ?_
   refine wpo_assign (v := .bool false) rfl rfl ?_
   refine wpo_nil ?_
   refine Xj ?_
   refine X7 ?_
   refine ⟨.bool false, res1 rfl rfl, ?_, hb147⟩
   exact congrArg Value.bool (Om h148)
  ·
   have h149 := J5 h148
   have h150 := J5 h149
   have h151 := J5 h150
   have h152 := Y9 h151
   have h153 := J6 h150
   have h154 := Y9 h153
   have h155 := J6 h149
   have h156 := Y9 h155
   have h157 := J6 h148
   have h158 := of_decide_eq_false h157
   refine Xk ?_
   refine Xn ?_
   refine Xa ?_
   refine wpo_assign (v := .int .i64 0) rfl rfl ?_
   refine wpo_nil ?_
   refine Xi ?_
   refine Xa ?_
   refine wpo_fieldAddr (o' := 0) X9 e143 rfl rfl ?_
   have k159 := (hN103.blk.grown0 hg146)
   refine wpo_load1 (v := .int .i64 m.t.kind) X0 rfl (k159.cell rfl) rfl ?_
   refine wpo_eql (q := decide (m.t.kind = 3)) rfl rfl rfl rfl ?_
   refine wpo_nil ?_
   refine Nt (fun f' w' => (f' 1 = .pointer (some ⟨B101, 0, none⟩) ∧ f' 2 = .bool false ∧ f' 3 = .int .i64 (if m.t.kind = 3 then (-4) else 0)) ∧ w142 = w') ?_ ?_
   ·
    refine Xq rfl (fun h160 => ?_) (fun h160 => ?_)
    ·
     have h161 := of_decide_eq_true h160
     refine Xl ?_
     refine wpo_assign (v := .int .i64 (-4)) rfl rfl ?_
     refine wpo_nil ?_
     refine Xn ?_
     exact ⟨⟨e143, e144, (congrArg (Value.int .i64) (if_pos (of_decide_eq_true h160)).symm)⟩, rfl⟩
    ·
     have h162 := of_decide_eq_false h160
     refine Xk ?_
     refine Xn ?_
     exact ⟨⟨e143, e144, (congrArg (Value.int .i64) (if_neg (of_decide_eq_false h160)).symm)⟩, rfl⟩
   ·
    rintro f163 _ ⟨⟨e165, e166, e167⟩, rfl⟩
    refine Xn ?_
    refine Xi ?_
    refine Xs (fun f' w' => (f' 1 = .pointer (some ⟨B101, 0, none⟩) ∧ f' 2 = .bool false ∧ f' 65 = .bool (((!inR m.t.num (if m.t.kind = 3 then (-4) else 0) 99) || ((!(decide (m.t.num = 0))) && ((decide (m.t.kind = 2)) || (decide (m.t.kind = 4))))) || ((!(decide (m.t.ve = 0))) && ((decide (m.t.kind = 3)) || (decide (m.t.kind = 5)))))) ∧ w142.grownBy w' none) ?_ ?_
    ·
     refine wpo_fieldAddr (o' := 4) Q4 e165 rfl rfl ?_
     refine wpo_load1 (v := .int .i64 m.t.num) X0 rfl (k159.cell rfl) rfl ?_
     refine wpo_move (v := .int .i64 (if m.t.kind = 3 then (-4) else 0)) e167 rfl ?_
     refine Xh (vs := [.int .i64 m.t.num, .int .i64 (if m.t.kind = 3 then (-4) else 0), .int .i64 99]) V2 (Xb rfl (Xb rfl (Xb rfl Xg))) rfl (Kz m.t.num (if m.t.kind = 3 then (-4) else 0) 99 _) ?_
     rintro _ w175 ⟨rfl, hg176⟩
     have hb177 := low0 hb147 hg176
     refine wpo_not (b' := !inR m.t.num (if m.t.kind = 3 then (-4) else 0) 99) rfl rfl rfl ?_
     refine wpo_move (v := .bool (!inR m.t.num (if m.t.kind = 3 then (-4) else 0) 99)) rfl rfl ?_
     rcases Xy (!inR m.t.num (if m.t.kind = 3 then (-4) else 0) 99) with h178 | h178
     ·
      have h179 := Q3 h178
      iterate 4 refine Xe rfl rfl rfl h178 rfl ?_
      iterate 8 refine X4 rfl rfl rfl rfl ?_
      refine Xe rfl rfl rfl h178 rfl ?_
      refine wpo_pickt (v := .bool true) rfl h178 rfl rfl ?_
      refine wpo_move (v := .bool true) rfl rfl ?_
      iterate 4 refine Xe rfl rfl rfl rfl rfl ?_
      iterate 8 refine X4 rfl rfl rfl rfl ?_
      refine Xe rfl rfl rfl rfl rfl ?_
      refine wpo_pickt (v := .bool true) rfl rfl rfl rfl ?_
      exact wpo_nil ⟨⟨e165, e166, (congrArg Value.bool (by first | (simp only [h148, h149, h150, h151, h152, h153, h154, h155, h156, h157, h178, h179, b0, b1, b2, b3, b4, b5, b6, b7, b8, b9]; done) | simp [h148, h149, h150, h151, h152, h153, h154, h155, h156, h157, h178, h179]))⟩, hg176⟩
     ·
      have h180 := Y9 h178
      refine Xc rfl rfl rfl h178 ?_
      refine wpo_fieldAddr (o' := 4) Q4 e165 rfl rfl ?_
      refine Xc rfl rfl rfl h178 ?_
      have k181 := (k159.grown0 hg176)
      refine wpo_load1 (v := .int .i64 m.t.num) X0 rfl (k181.cell rfl) rfl ?_
      refine Xc rfl rfl rfl h178 ?_
      refine wpo_neq (q := !(decide (m.t.num = 0))) rfl rfl rfl rfl ?_
      refine Xc rfl rfl rfl h178 ?_
      refine wpo_move (v := .bool (!(decide (m.t.num = 0)))) rfl rfl ?_
      rcases Xy (!(decide (m.t.num = 0))) with h182 | h182
      ·
       have h183 := Q3 h182
       have h184 := of_decide_eq_false h183
       refine Xc rfl rfl rfl h182 ?_
       refine wpo_fieldAddr (o' := 0) X9 e165 rfl rfl ?_
       refine Xc rfl rfl rfl h182 ?_
       refine wpo_load1 (v := .int .i64 m.t.kind) X0 rfl (k181.cell rfl) rfl ?_
       refine Xc rfl rfl rfl h182 ?_
       refine wpo_eql (q := decide (m.t.kind = 2)) rfl rfl rfl rfl ?_
       refine Xc rfl rfl rfl h182 ?_
       refine wpo_move (v := .bool (decide (m.t.kind = 2))) rfl rfl ?_
       rcases Xy (decide (m.t.kind = 2)) with h185 | h185
       ·
        have h186 := of_decide_eq_true h185
        iterate 3 refine Xe rfl rfl rfl h185 rfl ?_
        refine Xc rfl rfl rfl h182 ?_
        refine wpo_pickt (v := .bool true) rfl h185 rfl rfl ?_
        refine Xc rfl rfl rfl h178 ?_
        refine wpo_pickt (v := .bool true) rfl h182 rfl rfl ?_
        refine wpo_pickf (v := .bool true) rfl h178 rfl rfl ?_
        refine wpo_move (v := .bool true) rfl rfl ?_
        iterate 4 refine Xe rfl rfl rfl rfl rfl ?_
        iterate 8 refine X4 rfl rfl rfl rfl ?_
        refine Xe rfl rfl rfl rfl rfl ?_
        refine wpo_pickt (v := .bool true) rfl rfl rfl rfl ?_
        exact wpo_nil ⟨⟨e165, e166, (congrArg Value.bool (by first | (simp only [h148, h149, h150, h151, h152, h153, h154, h155, h156, h157, h178, h180, h182, h183, h185, b0, b1, b2, b3, b4, b5, b6, b7, b8, b9]; done) | simp [h148, h149, h150, h151, h152, h153, h154, h155, h156, h157, h178, h180, h182, h183, h185]))⟩, hg176⟩
       ·
        have h187 := of_decide_eq_false h185
        refine Xc rfl rfl rfl h185 ?_
        refine wpo_fieldAddr (o' := 0) X9 e165 rfl rfl ?_
        refine Xc rfl rfl rfl h185 ?_
        refine wpo_load1 (v := .int .i64 m.t.kind) X0 rfl (k181.cell rfl) rfl ?_
        refine Xc rfl rfl rfl h185 ?_
        refine wpo_eql (q := decide (m.t.kind = 4)) rfl rfl rfl rfl ?_
        refine Xc rfl rfl rfl h182 ?_
        refine wpo_pickf (v := .bool (decide (m.t.kind = 4))) rfl h185 rfl rfl ?_
        refine Xc rfl rfl rfl h178 ?_
        refine wpo_pickt (v := .bool (decide (m.t.kind = 4))) rfl h182 rfl rfl ?_
        refine wpo_pickf (v := .bool (decide (m.t.kind = 4))) rfl h178 rfl rfl ?_
        refine wpo_move (v := .bool (decide (m.t.kind = 4))) rfl rfl ?_
        rcases Xy (decide (m.t.kind = 4)) with h188 | h188
        ·
         have h189 := of_decide_eq_true h188
         iterate 4 refine Xe rfl rfl rfl h188 rfl ?_
         iterate 8 refine X4 rfl rfl rfl rfl ?_
         refine Xe rfl rfl rfl h188 rfl ?_
         refine wpo_pickt (v := .bool true) rfl h188 rfl rfl ?_
         exact wpo_nil ⟨⟨e165, e166, (congrArg Value.bool (by first | (simp only [h148, h149, h150, h151, h152, h153, h154, h155, h156, h157, h178, h180, h182, h183, h185, h188, b0, b1, b2, b3, b4, b5, b6, b7, b8, b9]; done) | simp [h148, h149, h150, h151, h152, h153, h154, h155, h156, h157, h178, h180, h182, h183, h185, h188]))⟩, hg176⟩
        ·
         have h190 := of_decide_eq_false h188
         refine Xc rfl rfl rfl h188 ?_
         refine wpo_fieldAddr (o' := 3) Qw e165 rfl rfl ?_
         refine Xc rfl rfl rfl h188 ?_
         refine wpo_load1 (v := .int .i64 m.t.ve) X0 rfl (k181.cell rfl) rfl ?_
         refine Xc rfl rfl rfl h188 ?_
         refine wpo_neq (q := !(decide (m.t.ve = 0))) rfl rfl rfl rfl ?_
         refine Xc rfl rfl rfl h188 ?_
         refine wpo_move (v := .bool (!(decide (m.t.ve = 0)))) rfl rfl ?_
         rcases Xy (!(decide (m.t.ve = 0))) with h191 | h191
         ·
          have h192 := Q3 h191
          have h193 := of_decide_eq_false h192
          refine Xc rfl rfl rfl h191 ?_
          refine wpo_fieldAddr (o' := 0) X9 e165 rfl rfl ?_
          refine Xc rfl rfl rfl h191 ?_
          refine wpo_load1 (v := .int .i64 m.t.kind) X0 rfl (k181.cell rfl) rfl ?_
          refine Xc rfl rfl rfl h191 ?_
          refine wpo_eql (q := decide (m.t.kind = 3)) rfl rfl rfl rfl ?_
          refine Xc rfl rfl rfl h191 ?_
          refine wpo_move (v := .bool (decide (m.t.kind = 3))) rfl rfl ?_
          rcases Xy (decide (m.t.kind = 3)) with h194 | h194
          ·
           have h195 := of_decide_eq_true h194
           iterate 3 refine Xe rfl rfl rfl h194 rfl ?_
           refine Xc rfl rfl rfl h191 ?_
           refine wpo_pickt (v := .bool true) rfl h194 rfl rfl ?_
           refine Xc rfl rfl rfl h188 ?_
           refine wpo_pickt (v := .bool true) rfl h191 rfl rfl ?_
           refine wpo_pickf (v := .bool true) rfl h188 rfl rfl ?_
           exact wpo_nil ⟨⟨e165, e166, (congrArg Value.bool (by first | (simp only [h148, h149, h150, h151, h152, h153, h154, h155, h156, h157, h178, h180, h182, h183, h185, h188, h191, h192, h194, b0, b1, b2, b3, b4, b5, b6, b7, b8, b9]; done) | simp [h148, h149, h150, h151, h152, h153, h154, h155, h156, h157, h178, h180, h182, h183, h185, h188, h191, h192, h194]))⟩, hg176⟩
          ·
           have h196 := of_decide_eq_false h194
           refine Xc rfl rfl rfl h194 ?_
           refine wpo_fieldAddr (o' := 0) X9 e165 rfl rfl ?_
           refine Xc rfl rfl rfl h194 ?_
           refine wpo_load1 (v := .int .i64 m.t.kind) X0 rfl (k181.cell rfl) rfl ?_
           refine Xc rfl rfl rfl h194 ?_
           refine wpo_eql (q := decide (m.t.kind = 5)) rfl rfl rfl rfl ?_
           refine Xc rfl rfl rfl h191 ?_
           refine wpo_pickf (v := .bool (decide (m.t.kind = 5))) rfl h194 rfl rfl ?_
           refine Xc rfl rfl rfl h188 ?_
           refine wpo_pickt (v := .bool (decide (m.t.kind = 5))) rfl h191 rfl rfl ?_
           refine wpo_pickf (v := .bool (decide (m.t.kind = 5))) rfl h188 rfl rfl ?_
           exact wpo_nil ⟨⟨e165, e166, (congrArg Value.bool (by first | (simp only [h148, h149, h150, h151, h152, h153, h154, h155, h156, h157, h178, h180, h182, h183, h185, h188, h191, h192, h194, b0, b1, b2, b3, b4, b5, b6, b7, b8, b9]; done) | simp [h148, h149, h150, h151, h152, h153, h154, h155, h156, h157, h178, h180, h182, h183, h185, h188, h191, h192, h194]))⟩, hg176⟩
         ·
          have h197 := Y9 h191
          have h198 := of_decide_eq_true h197
          iterate 4 refine Xe rfl rfl rfl h191 rfl ?_
          iterate 3 refine X4 rfl rfl rfl rfl ?_
          refine Xe rfl rfl rfl h191 rfl ?_
          refine Xc rfl rfl rfl h188 ?_
          refine wpo_pickf (v := .bool false) rfl h191 rfl rfl ?_
          refine wpo_pickf (v := .bool false) rfl h188 rfl rfl ?_
          exact wpo_nil ⟨⟨e165, e166, (congrArg Value.bool (by first | (simp only [h148, h149, h150, h151, h152, h153, h154, h155, h156, h157, h178, h180, h182, h183, h185, h188, h191, h197, b0, b1, b2, b3, b4, b5, b6, b7, b8, b9]; done) | simp [h148, h149, h150, h151, h152, h153, h154, h155, h156, h157, h178, h180, h182, h183, h185, h188, h191, h197]))⟩, hg176⟩
      ·
       have h199 := Y9 h182
       have h200 := of_decide_eq_true h199
       iterate 4 refine Xe rfl rfl rfl h182 rfl ?_
       iterate 3 refine X4 rfl rfl rfl rfl ?_
       refine Xe rfl rfl rfl h182 rfl ?_
       refine Xc rfl rfl rfl h178 ?_
       refine wpo_pickf (v := .bool false) rfl h182 rfl rfl ?_
       refine wpo_pickf (v := .bool false) rfl h178 rfl rfl ?_
       refine wpo_move (v := .bool false) rfl rfl ?_
       refine Xc rfl rfl rfl rfl ?_
       refine wpo_fieldAddr (o' := 3) Qw e165 rfl rfl ?_
       refine Xc rfl rfl rfl rfl ?_
       refine wpo_load1 (v := .int .i64 m.t.ve) X0 rfl (k181.cell rfl) rfl ?_
       refine Xc rfl rfl rfl rfl ?_
       refine wpo_neq (q := !(decide (m.t.ve = 0))) rfl rfl rfl rfl ?_
       refine Xc rfl rfl rfl rfl ?_
       refine wpo_move (v := .bool (!(decide (m.t.ve = 0)))) rfl rfl ?_
       rcases Xy (!(decide (m.t.ve = 0))) with h201 | h201
       ·
        have h202 := Q3 h201
        have h203 := of_decide_eq_false h202
        refine Xc rfl rfl rfl h201 ?_
        refine wpo_fieldAddr (o' := 0) X9 e165 rfl rfl ?_
        refine Xc rfl rfl rfl h201 ?_
        refine wpo_load1 (v := .int .i64 m.t.kind) X0 rfl (k181.cell rfl) rfl ?_
        refine Xc rfl rfl rfl h201 ?_
        refine wpo_eql (q := decide (m.t.kind = 3)) rfl rfl rfl rfl ?_
        refine Xc rfl rfl rfl h201 ?_
        refine wpo_move (v := .bool (decide (m.t.kind = 3))) rfl rfl ?_
        rcases Xy (decide (m.t.kind = 3)) with h204 | h204
        ·
         have h205 := of_decide_eq_true h204
         iterate 3 refine Xe rfl rfl rfl h204 rfl ?_
         refine Xc rfl rfl rfl h201 ?_
         refine wpo_pickt (v := .bool true) rfl h204 rfl rfl ?_
         refine Xc rfl rfl rfl rfl ?_
         refine wpo_pickt (v := .bool true) rfl h201 rfl rfl ?_
         refine wpo_pickf (v := .bool true) rfl rfl rfl rfl ?_
         exact wpo_nil ⟨⟨e165, e166, (congrArg Value.bool (by first | (simp only [h148, h149, h150, h151, h152, h153, h154, h155, h156, h157, h178, h180, h182, h199, h201, h202, h204, b0, b1, b2, b3, b4, b5, b6, b7, b8, b9]; done) | simp [h148, h149, h150, h151, h152, h153, h154, h155, h156, h157, h178, h180, h182, h199, h201, h202, h204]))⟩, hg176⟩
        ·
         have h206 := of_decide_eq_false h204
         refine Xc rfl rfl rfl h204 ?_
         refine wpo_fieldAddr (o' := 0) X9 e165 rfl rfl ?_
         refine Xc rfl rfl rfl h204 ?_
         refine wpo_load1 (v := .int .i64 m.t.kind) X0 rfl (k181.cell rfl) rfl ?_
         refine Xc rfl rfl rfl h204 ?_
         refine wpo_eql (q := decide (m.t.kind = 5)) rfl rfl rfl rfl ?_
         refine Xc rfl rfl rfl h201 ?_
         refine wpo_pickf (v := .bool (decide (m.t.kind = 5))) rfl h204 rfl rfl ?_
         refine Xc rfl rfl rfl rfl ?_
         refine wpo_pickt (v := .bool (decide (m.t.kind = 5))) rfl h201 rfl rfl ?_
         refine wpo_pickf (v := .bool (decide (m.t.kind = 5))) rfl rfl rfl rfl ?_
         exact wpo_nil ⟨⟨e165, e166, (congrArg Value.bool (by first | (simp only [h148, h149, h150, h151, h152, h153, h154, h155, h156, h157, h178, h180, h182, h199, h201, h202, h204, b0, b1, b2, b3, b4, b5, b6, b7, b8, b9]; done) | simp [h148, h149, h150, h151, h152, h153, h154, h155, h156, h157, h178, h180, h182, h199, h201, h202, h204]))⟩, hg176⟩
       ·
        have h207 := Y9 h201
        have h208 := of_decide_eq_true h207
        iterate 4 refine Xe rfl rfl rfl h201 rfl ?_
        iterate 3 refine X4 rfl rfl rfl rfl ?_
        refine Xe rfl rfl rfl h201 rfl ?_
        refine Xc rfl rfl rfl rfl ?_
        refine wpo_pickf (v := .bool false) rfl h201 rfl rfl ?_
        refine wpo_pickf (v := .bool false) rfl rfl rfl rfl ?_
        exact wpo_nil ⟨⟨e165, e166, (congrArg Value.bool (by first | (simp only [h148, h149, h150, h151, h152, h153, h154, h155, h156, h157, h178, h180, h182, h199, h201, h207, b0, b1, b2, b3, b4, b5, b6, b7, b8, b9]; done) | simp [h148, h149, h150, h151, h152, h153, h154, h155, h156, h157, h178, h180, h182, h199, h201, h207]))⟩, hg176⟩
    ·
     rintro f209 w210 ⟨⟨e211, e212, e213⟩, hg214⟩
     have hb215 := low0 hb147 hg214
     refine Xq e213 (fun h216 => ?_) (fun h216 => ?_)
     ·
      refine Xa ?_
      refine wpo_assign (v := .bool false) rfl rfl ?_
      refine wpo_nil ?_
      refine Xj ?_
      refine X7 ?_
      refine ⟨.bool false, res1 rfl rfl, ?_, hb215⟩
      exact congrArg Value.bool (On h216)
     ·
      have h217 := J5 h216
      have h218 := J5 h217
      have h219 := Y9 h218
      have h220 := J6 h217
      have h221 := J6 h216
      refine Xk ?_
      refine Xn ?_
      refine Xi ?_
      refine Xa ?_
      refine wpo_assign (v := .int .i64 0) rfl rfl ?_
      refine wpo_nil ?_
      refine Xv ?_
      have k222 := (k159.grown0 hg214)
      refine Ye (fun mm f' w' => ∃ (k : Nat), mm = m.t.queue.length - k ∧ k ≤ m.t.queue.length ∧ ((m.t.queue.take k).all numQ) = true ∧ f' 4 = .int .i64 (k : Int) ∧ f' 1 = .pointer (some ⟨B101, 0, none⟩) ∧ w.grownBy w' none ∧ Blk w' B101 35 #[.int .i64 m.t.kind, .int .i64 m.t.lab.s, .int .i64 m.t.lab.v, .int .i64 m.t.ve, .int .i64 m.t.num, .slice m.sa m.t.slots.length m.sc, .slice m.qa m.t.queue.length m.qc, .int .i64 m.t.to]) (m.t.queue.length - 0) ⟨0, rfl, (Nat.zero_le _), rfl, rfl, e211, hb215, k222⟩ ?_
      rintro mm f223 w224 ⟨k, hm226, hk, ha, e227, e228, hb225, k229⟩
      refine Xi ?_
      refine Xa ?_
      refine wpo_move (v := .int .i64 (k : Int)) e227 rfl ?_
      refine wpo_fieldAddr (o' := 6) Qk e228 rfl rfl ?_
      refine wpo_load1 (v := .slice m.qa m.t.queue.length m.qc) Jo rfl (k229.cell rfl) rfl ?_
      refine wpo_len (by kernel_rfl) rfl rfl ?_
      refine wpo_lss (q := decide ((k : Int) < (m.t.queue.length : Int))) rfl rfl rfl rfl ?_
      refine wpo_nil ?_
      refine Xq rfl (fun h230 => ?_) (fun h230 => ?_)
      ·
       have h231 := of_decide_eq_true h230
       refine Xk ?_
       refine Xn ?_
       refine Xi ?_
       refine Xv ?_
       refine Xa ?_
       refine wpo_fieldAddr (o' := 6) Qk e228 rfl rfl ?_
       refine wpo_load1 (v := .slice m.qa m.t.queue.length m.qc) Jo rfl (k229.cell rfl) rfl ?_
       refine wpo_move (v := .int .i64 (k : Int)) e227 rfl ?_
       obtain ⟨x232, hx233⟩ := Qc (l := m.t.queue) (i := k) (by omega)
       obtain ⟨b234, q235, o236, ha237, ho238, hr239⟩ := SlAt.at hq (Yh hx233)
       refine X2 Km rfl rfl ha237 ho238 (by omega) (by omega) rfl ?_
       refine wpo_load1 (v := .int .i64 x232) X0 rfl ((Yp hr239 hb225) 0 _ rfl) rfl ?_
       refine Xh (vs := [.int .i64 x232, .int .i64 0, .int .i64 99]) V2 (Xb rfl (Xb rfl (Xb rfl Xg))) rfl (Kz x232 0 99 _) ?_
       rintro _ w240 ⟨rfl, hg241⟩
       have hb242 := low0 hb225 hg241
       refine wpo_not (b' := !inR x232 0 99) rfl rfl rfl ?_
       refine wpo_nil ?_
       refine Xq rfl (fun h243 => ?_) (fun h243 => ?_)
       ·
        have h244 := Q3 h243
        refine Xa ?_
        refine wpo_assign (v := .bool false) rfl rfl ?_
        refine wpo_nil ?_
        refine Xj ?_
        refine Qd ?_
        refine X7 ?_
        refine X7 ?_
        refine Qd ?_
        refine X7 ?_
        refine ⟨.bool false, res1 rfl rfl, ?_, hb242⟩
        exact congrArg Value.bool (Ot hx233 h244)
       ·
        have h245 := Y9 h243
        refine Xk ?_
        refine Yy ?_
        refine Xn ?_
        refine Xl ?_
        refine wpo_move (v := .int .i64 (k : Int)) e227 rfl ?_
        refine wpo_add (c := (k : Int) + 1) rfl rfl (by omega) (by omega) (by omega) rfl ?_
        refine wpo_assign (v := .int .i64 ((k : Int) + 1)) rfl rfl ?_
        refine wpo_nil ?_
        refine Xn ?_
        have k246 := (k229.grown0 hg241)
        exact ⟨m.t.queue.length - (k + 1), by omega, (k + 1), rfl, (by omega), (Ja (p := numQ) ha hx233 h245), rfl, e228, hb242, k246⟩
      ·
       have h247 := of_decide_eq_false h230
       refine Yj ?_
       refine Yt ?_
       refine Yt ?_
       refine Jf ?_
       refine Xn ?_
       refine Xi ?_
       refine Xa ?_
       refine wpo_assign (v := .int .i64 0) rfl rfl ?_
       refine wpo_nil ?_
       refine Xv ?_
       refine Ye (fun mm f' w' => ∃ (j : Nat), mm = m.t.slots.length - j ∧ j ≤ m.t.slots.length ∧ ((m.t.slots.take j).all rightOk) = true ∧ f' 5 = .int .i64 (j : Int) ∧ f' 1 = .pointer (some ⟨B101, 0, none⟩) ∧ w.grownBy w' none ∧ Blk w' B101 35 #[.int .i64 m.t.kind, .int .i64 m.t.lab.s, .int .i64 m.t.lab.v, .int .i64 m.t.ve, .int .i64 m.t.num, .slice m.sa m.t.slots.length m.sc, .slice m.qa m.t.queue.length m.qc, .int .i64 m.t.to]) (m.t.slots.length - 0) ⟨0, rfl, (Nat.zero_le _), rfl, rfl, e228, hb225, k229⟩ ?_
       rintro mm f248 w249 ⟨j, hm251, hj, hb, e252, e253, hb250, k254⟩
       refine Xi ?_
       refine Xa ?_
       refine wpo_move (v := .int .i64 (j : Int)) e252 rfl ?_
       refine wpo_fieldAddr (o' := 5) Y2 e253 rfl rfl ?_
       refine wpo_load1 (v := .slice m.sa m.t.slots.length m.sc) Jc rfl (k254.cell rfl) rfl ?_
       refine wpo_len (by kernel_rfl) rfl rfl ?_
       refine wpo_lss (q := decide ((j : Int) < (m.t.slots.length : Int))) rfl rfl rfl rfl ?_
       refine wpo_nil ?_
       refine Xq rfl (fun h255 => ?_) (fun h255 => ?_)
       ·
        have h256 := of_decide_eq_true h255
        refine Xk ?_
        refine Xn ?_
        refine Xi ?_
        refine Xv ?_
        refine Xa ?_
        refine wpo_fieldAddr (o' := 5) Y2 e253 rfl rfl ?_
        refine wpo_load1 (v := .slice m.sa m.t.slots.length m.sc) Jc rfl (k254.cell rfl) rfl ?_
        refine wpo_move (v := .int .i64 (j : Int)) e252 rfl ?_
        obtain ⟨x257, hx258⟩ := Qc (l := m.t.slots) (i := j) (by omega)
        obtain ⟨b259, q260, o261, ha262, ho263, hr264⟩ := SlAt.at hs (Yh hx258)
        refine X2 We rfl rfl ha262 ho263 (by omega) (by omega) rfl ?_
        refine wpo_loadn (vs := [.int .i64 x257.th, .int .i64 x257.ve, .bool x257.rd, .bool x257.wr, .bool x257.wk]) Y1 rfl rfl (Qa (Yp hr264 hb250) 0 5 rfl) rfl ?_
        refine Xh (vs := [.agg #[.int .i64 x257.th, .int .i64 x257.ve, .bool x257.rd, .bool x257.wr, .bool x257.wk]]) Et (Xb rfl Xg) rfl (Hu x257 _) ?_
        rintro _ w265 ⟨rfl, hg266⟩
        have hb267 := low0 hb250 hg266
        refine wpo_not (b' := !rightOk x257) rfl rfl rfl ?_
        refine wpo_nil ?_
        refine Xq rfl (fun h268 => ?_) (fun h268 => ?_)
        ·
         have h269 := Q3 h268
         refine Xa ?_
         refine wpo_assign (v := .bool false) rfl rfl ?_
         refine wpo_nil ?_
         refine Xj ?_
         refine Qd ?_
         refine X7 ?_
         refine X7 ?_
         refine Qd ?_
         refine X7 ?_
         refine ⟨.bool false, res1 rfl rfl, ?_, hb267⟩
         exact congrArg Value.bool (Ou hx258 h269)
        ·
         have h270 := Y9 h268
         refine Xk ?_
         refine Yy ?_
         refine Xn ?_
         refine Xl ?_
         refine wpo_move (v := .int .i64 (j : Int)) e252 rfl ?_
         refine wpo_add (c := (j : Int) + 1) rfl rfl (by omega) (by omega) (by omega) rfl ?_
         refine wpo_assign (v := .int .i64 ((j : Int) + 1)) rfl rfl ?_
         refine wpo_nil ?_
         refine Xn ?_
         have k271 := (k254.grown0 hg266)
         exact ⟨m.t.slots.length - (j + 1), by omega, (j + 1), rfl, (by omega), (Ja (p := rightOk) hb hx258 h270), rfl, e253, hb267, k271⟩
       ·
        have h272 := of_decide_eq_false h255
        refine Yj ?_
        refine Yt ?_
        refine Yt ?_
        refine Jf ?_
        refine Xn ?_
        refine Xi ?_
        refine Xs (fun f' w' => (f' 1 = .pointer (some ⟨B101, 0, none⟩) ∧ f' 114 = .bool ((((decide (m.t.kind = 2)) || (decide (m.t.kind = 3))) && (!(decide ((m.t.slots.length : Int) = 4)))) || ((!((decide (m.t.kind = 2)) || (decide (m.t.kind = 3)))) && (!(decide ((m.t.slots.length : Int) = 0)))))) ∧ w249.grownBy w' none) ?_ ?_
        ·
         refine wpo_fieldAddr (o' := 0) X9 e253 rfl rfl ?_
         refine wpo_load1 (v := .int .i64 m.t.kind) X0 rfl (k254.cell rfl) rfl ?_
         refine Xh (vs := [.int .i64 m.t.kind]) Hg (Xb rfl Xg) rfl (Kc m.t.kind _) ?_
         rintro _ w284 ⟨rfl, hg285⟩
         have hb286 := low0 hb250 hg285
         refine wpo_move (v := .bool ((decide (m.t.kind = 2)) || (decide (m.t.kind = 3)))) rfl rfl ?_
         rcases Xy ((decide (m.t.kind = 2)) || (decide (m.t.kind = 3))) with h287 | h287
         ·
          refine Xc rfl rfl rfl h287 ?_
          refine wpo_fieldAddr (o' := 5) Y2 e253 rfl rfl ?_
          refine Xc rfl rfl rfl h287 ?_
          have k288 := (k254.grown0 hg285)
          refine wpo_load1 (v := .slice m.sa m.t.slots.length m.sc) Jc rfl (k288.cell rfl) rfl ?_
          refine Xc rfl rfl rfl h287 ?_
          refine wpo_len (by kernel_rfl) rfl rfl ?_
          refine Xc rfl rfl rfl h287 ?_
          refine wpo_neq (q := !(decide ((m.t.slots.length : Int) = 4))) rfl rfl rfl rfl ?_
          refine wpo_pickt (v := .bool (!(decide ((m.t.slots.length : Int) = 4)))) rfl h287 rfl rfl ?_
          refine wpo_move (v := .bool (!(decide ((m.t.slots.length : Int) = 4)))) rfl rfl ?_
          rcases Xy (!(decide ((m.t.slots.length : Int) = 4))) with h289 | h289
          ·
           have h290 := Q3 h289
           have h291 := of_decide_eq_false h290
           iterate 5 refine Xe rfl rfl rfl h289 rfl ?_
           iterate 4 refine X4 rfl rfl rfl rfl ?_
           refine Xe rfl rfl rfl h289 rfl ?_
           refine wpo_pickt (v := .bool true) rfl h289 rfl rfl ?_
           exact wpo_nil ⟨⟨e253, (congrArg Value.bool (by first | (simp only [h148, h149, h150, h151, h152, h153, h154, h155, h156, h157, h216, h217, h218, h219, h220, h221, h230, h255, h287, h289, h290, b0, b1, b2, b3, b4, b5, b6, b7, b8, b9]; done) | simp [h148, h149, h150, h151, h152, h153, h154, h155, h156, h157, h216, h217, h218, h219, h220, h221, h230, h255, h287, h289, h290]))⟩, hg285⟩
          ·
           have h292 := Y9 h289
           have h293 := of_decide_eq_true h292
           refine Xc rfl rfl rfl h289 ?_
           refine wpo_fieldAddr (o' := 0) X9 e253 rfl rfl ?_
           refine Xc rfl rfl rfl h289 ?_
           refine wpo_load1 (v := .int .i64 m.t.kind) X0 rfl (k288.cell rfl) rfl ?_
           refine Xc rfl rfl rfl h289 ?_
           refine Xh (vs := [.int .i64 m.t.kind]) Hg (Xb rfl Xg) rfl (Kc m.t.kind _) ?_
           rintro _ w294 ⟨rfl, hg295⟩
           have hb296 := low0 hb286 hg295
           refine Xc rfl rfl rfl h289 ?_
           refine wpo_not (b' := !((decide (m.t.kind = 2)) || (decide (m.t.kind = 3)))) rfl rfl rfl ?_
           refine Xc rfl rfl rfl h289 ?_
           refine wpo_move (v := .bool (!((decide (m.t.kind = 2)) || (decide (m.t.kind = 3))))) rfl rfl ?_
           iterate 4 refine Xe rfl rfl rfl (Jt h287) rfl ?_
           refine Xc rfl rfl rfl h289 ?_
           refine wpo_pickf (v := .bool false) rfl (Jt h287) rfl rfl ?_
           refine wpo_pickf (v := .bool false) rfl h289 rfl rfl ?_
           exact wpo_nil ⟨⟨e253, (congrArg Value.bool (by first | (simp only [h148, h149, h150, h151, h152, h153, h154, h155, h156, h157, h216, h217, h218, h219, h220, h221, h230, h255, h287, h289, h292, b0, b1, b2, b3, b4, b5, b6, b7, b8, b9]; done) | simp [h148, h149, h150, h151, h152, h153, h154, h155, h156, h157, h216, h217, h218, h219, h220, h221, h230, h255, h287, h289, h292]))⟩, (Xf hg285 hg295)⟩
         ·
          have h297 := J5 h287
          have h298 := of_decide_eq_false h297
          have h299 := J6 h287
          have h300 := of_decide_eq_false h299
          iterate 4 refine Xe rfl rfl rfl h287 rfl ?_
          refine wpo_pickf (v := .bool false) rfl h287 rfl rfl ?_
          refine wpo_move (v := .bool false) rfl rfl ?_
          refine Xc rfl rfl rfl rfl ?_
          refine wpo_fieldAddr (o' := 0) X9 e253 rfl rfl ?_
          refine Xc rfl rfl rfl rfl ?_
          have k301 := (k254.grown0 hg285)
          refine wpo_load1 (v := .int .i64 m.t.kind) X0 rfl (k301.cell rfl) rfl ?_
          refine Xc rfl rfl rfl rfl ?_
          refine Xh (vs := [.int .i64 m.t.kind]) Hg (Xb rfl Xg) rfl (Kc m.t.kind _) ?_
          rintro _ w302 ⟨rfl, hg303⟩
          have hb304 := low0 hb286 hg303
          refine Xc rfl rfl rfl rfl ?_
          refine wpo_not (b' := !((decide (m.t.kind = 2)) || (decide (m.t.kind = 3)))) rfl rfl rfl ?_
          refine Xc rfl rfl rfl rfl ?_
          refine wpo_move (v := .bool (!((decide (m.t.kind = 2)) || (decide (m.t.kind = 3))))) rfl rfl ?_
          refine Xc rfl rfl rfl (Qr h287) ?_
          refine wpo_fieldAddr (o' := 5) Y2 e253 rfl rfl ?_
          refine Xc rfl rfl rfl (Qr h287) ?_
          have k305 := (k301.grown0 hg303)
          refine wpo_load1 (v := .slice m.sa m.t.slots.length m.sc) Jc rfl (k305.cell rfl) rfl ?_
          refine Xc rfl rfl rfl (Qr h287) ?_
          refine wpo_len (by kernel_rfl) rfl rfl ?_
          refine Xc rfl rfl rfl (Qr h287) ?_
          refine wpo_neq (q := !(decide ((m.t.slots.length : Int) = 0))) rfl rfl rfl rfl ?_
          refine Xc rfl rfl rfl rfl ?_
          refine wpo_pickt (v := .bool (!(decide ((m.t.slots.length : Int) = 0)))) rfl (Qr h287) rfl rfl ?_
          refine wpo_pickf (v := .bool (!(decide ((m.t.slots.length : Int) = 0)))) rfl rfl rfl rfl ?_
          exact wpo_nil ⟨⟨e253, (congrArg Value.bool (by first | (simp only [h148, h149, h150, h151, h152, h153, h154, h155, h156, h157, h216, h217, h218, h219, h220, h221, h230, h255, h287, h297, h299, b0, b1, b2, b3, b4, b5, b6, b7, b8, b9]; done) | simp [h148, h149, h150, h151, h152, h153, h154, h155, h156, h157, h216, h217, h218, h219, h220, h221, h230, h255, h287, h297, h299]))⟩, (Xf hg285 hg303)⟩
        ·
         rintro f306 w307 ⟨⟨e308, e309⟩, hg310⟩
         have hb311 := low0 hb250 hg310
         refine Xq e309 (fun h312 => ?_) (fun h312 => ?_)
         ·
          refine Xa ?_
          refine wpo_assign (v := .bool false) rfl rfl ?_
          refine wpo_nil ?_
          refine Xj ?_
          refine X7 ?_
          refine ⟨.bool false, res1 rfl rfl, ?_, hb311⟩
          exact congrArg Value.bool (Oo h312)
         ·
          have h313 := J5 h312
          have h314 := J6 h312
          refine Xk ?_
          refine Xn ?_
          refine Xs (fun f' w' => (f' 2 = .bool (((decide (m.t.kind = 4)) || (decide ((m.t.queue.length : Int) = 0))) && (((decide (m.t.kind = 5)) && inR m.t.to 1 8) || ((!(decide (m.t.kind = 5))) && (decide (m.t.to = 0)))))) ∧ w307.grownBy w' none) ?_ ?_
          ·
           refine wpo_fieldAddr (o' := 0) X9 e308 rfl rfl ?_
           have k321 := (k254.grown0 hg310)
           refine wpo_load1 (v := .int .i64 m.t.kind) X0 rfl (k321.cell rfl) rfl ?_
           refine wpo_eql (q := decide (m.t.kind = 4)) rfl rfl rfl rfl ?_
           refine wpo_move (v := .bool (decide (m.t.kind = 4))) rfl rfl ?_
           rcases Xy (decide (m.t.kind = 4)) with h322 | h322
           ·
            have h323 := of_decide_eq_true h322
            iterate 4 refine Xe rfl rfl rfl h322 rfl ?_
            refine wpo_pickt (v := .bool true) rfl h322 rfl rfl ?_
            refine wpo_move (v := .bool true) rfl rfl ?_
            refine Xc rfl rfl rfl rfl ?_
            refine wpo_fieldAddr (o' := 0) X9 e308 rfl rfl ?_
            refine Xc rfl rfl rfl rfl ?_
            refine wpo_load1 (v := .int .i64 m.t.kind) X0 rfl (k321.cell rfl) rfl ?_
            refine Xc rfl rfl rfl rfl ?_
            refine wpo_eql (q := decide (m.t.kind = 5)) rfl rfl rfl rfl ?_
            refine Xc rfl rfl rfl rfl ?_
            refine wpo_move (v := .bool (decide (m.t.kind = 5))) rfl rfl ?_
            rcases Xy (decide (m.t.kind = 5)) with h324 | h324
            ·
             have h325 := of_decide_eq_true h324
             refine Xc rfl rfl rfl h324 ?_
             refine wpo_fieldAddr (o' := 7) Jj e308 rfl rfl ?_
             refine Xc rfl rfl rfl h324 ?_
             refine wpo_load1 (v := .int .i64 m.t.to) X0 rfl (k321.cell rfl) rfl ?_
             refine Xc rfl rfl rfl h324 ?_
             refine Xh (vs := [.int .i64 m.t.to, .int .i64 1, .int .i64 8]) V2 (Xb rfl (Xb rfl (Xb rfl Xg))) rfl (Kz m.t.to 1 8 _) ?_
             rintro _ w326 ⟨rfl, hg327⟩
             have hb328 := low0 hb311 hg327
             refine Xc rfl rfl rfl rfl ?_
             refine wpo_pickt (v := .bool (inR m.t.to 1 8)) rfl h324 rfl rfl ?_
             refine Xc rfl rfl rfl rfl ?_
             refine wpo_move (v := .bool (inR m.t.to 1 8)) rfl rfl ?_
             rcases Xy (inR m.t.to 1 8) with h329 | h329
             ·
              iterate 4 refine Xe rfl rfl rfl h329 rfl ?_
              iterate 3 refine X4 rfl rfl rfl rfl ?_
              refine Xe rfl rfl rfl h329 rfl ?_
              refine Xc rfl rfl rfl rfl ?_
              refine wpo_pickt (v := .bool true) rfl h329 rfl rfl ?_
              refine wpo_pickt (v := .bool true) rfl rfl rfl rfl ?_
              refine wpo_assign (v := .bool true) rfl rfl ?_
              exact wpo_nil ⟨(congrArg Value.bool (by first | (simp only [h148, h149, h150, h151, h152, h153, h154, h155, h156, h157, h216, h217, h218, h219, h220, h221, h230, h255, h312, h313, h314, h322, h324, h329, b0, b1, b2, b3, b4, b5, b6, b7, b8, b9]; done) | simp [h148, h149, h150, h151, h152, h153, h154, h155, h156, h157, h216, h217, h218, h219, h220, h221, h230, h255, h312, h313, h314, h322, h324, h329])), hg327⟩
             ·
              refine Xc rfl rfl rfl h329 ?_
              refine wpo_fieldAddr (o' := 0) X9 e308 rfl rfl ?_
              refine Xc rfl rfl rfl h329 ?_
              have k330 := (k321.grown0 hg327)
              refine wpo_load1 (v := .int .i64 m.t.kind) X0 rfl (k330.cell rfl) rfl ?_
              refine Xc rfl rfl rfl h329 ?_
              refine wpo_neq (q := !(decide (m.t.kind = 5))) rfl rfl rfl rfl ?_
              refine Xc rfl rfl rfl h329 ?_
              refine wpo_move (v := .bool (!(decide (m.t.kind = 5)))) rfl rfl ?_
              iterate 3 refine Xe rfl rfl rfl (Jt h324) rfl ?_
              refine Xc rfl rfl rfl h329 ?_
              refine wpo_pickf (v := .bool false) rfl (Jt h324) rfl rfl ?_
              refine Xc rfl rfl rfl rfl ?_
              refine wpo_pickf (v := .bool false) rfl h329 rfl rfl ?_
              refine wpo_pickt (v := .bool false) rfl rfl rfl rfl ?_
              refine wpo_assign (v := .bool false) rfl rfl ?_
              exact wpo_nil ⟨(congrArg Value.bool (by first | (simp only [h148, h149, h150, h151, h152, h153, h154, h155, h156, h157, h216, h217, h218, h219, h220, h221, h230, h255, h312, h313, h314, h322, h324, h329, b0, b1, b2, b3, b4, b5, b6, b7, b8, b9]; done) | simp [h148, h149, h150, h151, h152, h153, h154, h155, h156, h157, h216, h217, h218, h219, h220, h221, h230, h255, h312, h313, h314, h322, h324, h329])), hg327⟩
            ·
             have h331 := of_decide_eq_false h324
             iterate 3 refine Xe rfl rfl rfl h324 rfl ?_
             refine Xc rfl rfl rfl rfl ?_
             refine wpo_pickf (v := .bool false) rfl h324 rfl rfl ?_
             refine Xc rfl rfl rfl rfl ?_
             refine wpo_move (v := .bool false) rfl rfl ?_
             refine Xc rfl rfl rfl rfl ?_
             refine wpo_fieldAddr (o' := 0) X9 e308 rfl rfl ?_
             refine Xc rfl rfl rfl rfl ?_
             refine wpo_load1 (v := .int .i64 m.t.kind) X0 rfl (k321.cell rfl) rfl ?_
             refine Xc rfl rfl rfl rfl ?_
             refine wpo_neq (q := !(decide (m.t.kind = 5))) rfl rfl rfl rfl ?_
             refine Xc rfl rfl rfl rfl ?_
             refine wpo_move (v := .bool (!(decide (m.t.kind = 5)))) rfl rfl ?_
             refine Xc rfl rfl rfl (Qr h324) ?_
             refine wpo_fieldAddr (o' := 7) Jj e308 rfl rfl ?_
             refine Xc rfl rfl rfl (Qr h324) ?_
             refine wpo_load1 (v := .int .i64 m.t.to) X0 rfl (k321.cell rfl) rfl ?_
             refine Xc rfl rfl rfl (Qr h324) ?_
             refine wpo_eql (q := decide (m.t.to = 0)) rfl rfl rfl rfl ?_
             refine Xc rfl rfl rfl rfl ?_
             refine wpo_pickt (v := .bool (decide (m.t.to = 0))) rfl (Qr h324) rfl rfl ?_
             refine Xc rfl rfl rfl rfl ?_
             refine wpo_pickf (v := .bool (decide (m.t.to = 0))) rfl rfl rfl rfl ?_
             refine wpo_pickt (v := .bool (decide (m.t.to = 0))) rfl rfl rfl rfl ?_
             refine wpo_assign (v := .bool (decide (m.t.to = 0))) rfl rfl ?_
             exact wpo_nil ⟨(congrArg Value.bool (by first | (simp only [h148, h149, h150, h151, h152, h153, h154, h155, h156, h157, h216, h217, h218, h219, h220, h221, h230, h255, h312, h313, h314, h322, h324, b0, b1, b2, b3, b4, b5, b6, b7, b8, b9]; done) | simp [h148, h149, h150, h151, h152, h153, h154, h155, h156, h157, h216, h217, h218, h219, h220, h221, h230, h255, h312, h313, h314, h322, h324])), (World.grownBy.refl _ _)⟩
           ·
            have h332 := of_decide_eq_false h322
            refine Xc rfl rfl rfl h322 ?_
            refine wpo_fieldAddr (o' := 6) Qk e308 rfl rfl ?_
            refine Xc rfl rfl rfl h322 ?_
            refine wpo_load1 (v := .slice m.qa m.t.queue.length m.qc) Jo rfl (k321.cell rfl) rfl ?_
            refine Xc rfl rfl rfl h322 ?_
            refine wpo_len (by kernel_rfl) rfl rfl ?_
            refine Xc rfl rfl rfl h322 ?_
            refine wpo_eql (q := decide ((m.t.queue.length : Int) = 0)) rfl rfl rfl rfl ?_
            refine wpo_pickf (v := .bool (decide ((m.t.queue.length : Int) = 0))) rfl h322 rfl rfl ?_
            refine wpo_move (v := .bool (decide ((m.t.queue.length : Int) = 0))) rfl rfl ?_
            rcases Xy (decide ((m.t.queue.length : Int) = 0)) with h333 | h333
            ·
             have h334 := of_decide_eq_true h333
             refine Xc rfl rfl rfl h333 ?_
             refine wpo_fieldAddr (o' := 0) X9 e308 rfl rfl ?_
             refine Xc rfl rfl rfl h333 ?_
             refine wpo_load1 (v := .int .i64 m.t.kind) X0 rfl (k321.cell rfl) rfl ?_
             refine Xc rfl rfl rfl h333 ?_
             refine wpo_eql (q := decide (m.t.kind = 5)) rfl rfl rfl rfl ?_
             refine Xc rfl rfl rfl h333 ?_
             refine wpo_move (v := .bool (decide (m.t.kind = 5))) rfl rfl ?_
             rcases Xy (decide (m.t.kind = 5)) with h335 | h335
             ·
              have h336 := of_decide_eq_true h335
              refine Xc rfl rfl rfl h335 ?_
              refine wpo_fieldAddr (o' := 7) Jj e308 rfl rfl ?_
              refine Xc rfl rfl rfl h335 ?_
              refine wpo_load1 (v := .int .i64 m.t.to) X0 rfl (k321.cell rfl) rfl ?_
              refine Xc rfl rfl rfl h335 ?_
              refine Xh (vs := [.int .i64 m.t.to, .int .i64 1, .int .i64 8]) V2 (Xb rfl (Xb rfl (Xb rfl Xg))) rfl (Kz m.t.to 1 8 _) ?_
              rintro _ w337 ⟨rfl, hg338⟩
              have hb339 := low0 hb311 hg338
              refine Xc rfl rfl rfl h333 ?_
              refine wpo_pickt (v := .bool (inR m.t.to 1 8)) rfl h335 rfl rfl ?_
              refine Xc rfl rfl rfl h333 ?_
              refine wpo_move (v := .bool (inR m.t.to 1 8)) rfl rfl ?_
              rcases Xy (inR m.t.to 1 8) with h340 | h340
              ·
               iterate 4 refine Xe rfl rfl rfl h340 rfl ?_
               iterate 3 refine X4 rfl rfl rfl rfl ?_
               refine Xe rfl rfl rfl h340 rfl ?_
               refine Xc rfl rfl rfl h333 ?_
               refine wpo_pickt (v := .bool true) rfl h340 rfl rfl ?_
               refine wpo_pickt (v := .bool true) rfl h333 rfl rfl ?_
               refine wpo_assign (v := .bool true) rfl rfl ?_
               exact wpo_nil ⟨(congrArg Value.bool (by first | (simp only [h148, h149, h150, h151, h152, h153, h154, h155, h156, h157, h216, h217, h218, h219, h220, h221, h230, h255, h312, h313, h314, h322, h333, h335, h340, b0, b1, b2, b3, b4, b5, b6, b7, b8, b9]; done) | simp [h148, h149, h150, h151, h152, h153, h154, h155, h156, h157, h216, h217, h218, h219, h220, h221, h230, h255, h312, h313, h314, h322, h333, h335, h340])), hg338⟩
              ·
               refine Xc rfl rfl rfl h340 ?_
               refine wpo_fieldAddr (o' := 0) X9 e308 rfl rfl ?_
               refine Xc rfl rfl rfl h340 ?_
               have k341 := (k321.grown0 hg338)
               refine wpo_load1 (v := .int .i64 m.t.kind) X0 rfl (k341.cell rfl) rfl ?_
               refine Xc rfl rfl rfl h340 ?_
               refine wpo_neq (q := !(decide (m.t.kind = 5))) rfl rfl rfl rfl ?_
               refine Xc rfl rfl rfl h340 ?_
               refine wpo_move (v := .bool (!(decide (m.t.kind = 5)))) rfl rfl ?_
               iterate 3 refine Xe rfl rfl rfl (Jt h335) rfl ?_
               refine Xc rfl rfl rfl h340 ?_
               refine wpo_pickf (v := .bool false) rfl (Jt h335) rfl rfl ?_
               refine Xc rfl rfl rfl h333 ?_
               refine wpo_pickf (v := .bool false) rfl h340 rfl rfl ?_
               refine wpo_pickt (v := .bool false) rfl h333 rfl rfl ?_
               refine wpo_assign (v := .bool false) rfl rfl ?_
               exact wpo_nil ⟨(congrArg Value.bool (by first | (simp only [h148, h149, h150, h151, h152, h153, h154, h155, h156, h157, h216, h217, h218, h219, h220, h221, h230, h255, h312, h313, h314, h322, h333, h335, h340, b0, b1, b2, b3, b4, b5, b6, b7, b8, b9]; done) | simp [h148, h149, h150, h151, h152, h153, h154, h155, h156, h157, h216, h217, h218, h219, h220, h221, h230, h255, h312, h313, h314, h322, h333, h335, h340])), hg338⟩
             ·
              have h342 := of_decide_eq_false h335
              iterate 3 refine Xe rfl rfl rfl h335 rfl ?_
              refine Xc rfl rfl rfl h333 ?_
              refine wpo_pickf (v := .bool false) rfl h335 rfl rfl ?_
              refine Xc rfl rfl rfl h333 ?_
              refine wpo_move (v := .bool false) rfl rfl ?_
              refine Xc rfl rfl rfl rfl ?_
              refine wpo_fieldAddr (o' := 0) X9 e308 rfl rfl ?_
              refine Xc rfl rfl rfl rfl ?_
              refine wpo_load1 (v := .int .i64 m.t.kind) X0 rfl (k321.cell rfl) rfl ?_
              refine Xc rfl rfl rfl rfl ?_
              refine wpo_neq (q := !(decide (m.t.kind = 5))) rfl rfl rfl rfl ?_
              refine Xc rfl rfl rfl rfl ?_
              refine wpo_move (v := .bool (!(decide (m.t.kind = 5)))) rfl rfl ?_
              refine Xc rfl rfl rfl (Qr h335) ?_
              refine wpo_fieldAddr (o' := 7) Jj e308 rfl rfl ?_
              refine Xc rfl rfl rfl (Qr h335) ?_
              refine wpo_load1 (v := .int .i64 m.t.to) X0 rfl (k321.cell rfl) rfl ?_
              refine Xc rfl rfl rfl (Qr h335) ?_
              refine wpo_eql (q := decide (m.t.to = 0)) rfl rfl rfl rfl ?_
              refine Xc rfl rfl rfl rfl ?_
              refine wpo_pickt (v := .bool (decide (m.t.to = 0))) rfl (Qr h335) rfl rfl ?_
              refine Xc rfl rfl rfl h333 ?_
              refine wpo_pickf (v := .bool (decide (m.t.to = 0))) rfl rfl rfl rfl ?_
              refine wpo_pickt (v := .bool (decide (m.t.to = 0))) rfl h333 rfl rfl ?_
              refine wpo_assign (v := .bool (decide (m.t.to = 0))) rfl rfl ?_
              exact wpo_nil ⟨(congrArg Value.bool (by first | (simp only [h148, h149, h150, h151, h152, h153, h154, h155, h156, h157, h216, h217, h218, h219, h220, h221, h230, h255, h312, h313, h314, h322, h333, h335, b0, b1, b2, b3, b4, b5, b6, b7, b8, b9]; done) | simp [h148, h149, h150, h151, h152, h153, h154, h155, h156, h157, h216, h217, h218, h219, h220, h221, h230, h255, h312, h313, h314, h322, h333, h335])), (World.grownBy.refl _ _)⟩
            ·
             have h343 := of_decide_eq_false h333
             iterate 4 refine Xe rfl rfl rfl h333 rfl ?_
             iterate 3 refine X4 rfl rfl rfl rfl ?_
             refine Xe rfl rfl rfl h333 rfl ?_
             refine Xe rfl rfl rfl h333 rfl ?_
             iterate 8 refine X4 rfl rfl rfl rfl ?_
             refine Xe rfl rfl rfl h333 rfl ?_
             refine wpo_pickf (v := .bool false) rfl h333 rfl rfl ?_
             refine wpo_assign (v := .bool false) rfl rfl ?_
             exact wpo_nil ⟨(congrArg Value.bool (by first | (simp only [h148, h149, h150, h151, h152, h153, h154, h155, h156, h157, h216, h217, h218, h219, h220, h221, h230, h255, h312, h313, h314, h322, h333, b0, b1, b2, b3, b4, b5, b6, b7, b8, b9]; done) | simp [h148, h149, h150, h151, h152, h153, h154, h155, h156, h157, h216, h217, h218, h219, h220, h221, h230, h255, h312, h313, h314, h322, h333])), (World.grownBy.refl _ _)⟩
          ·
           rintro f344 w345 ⟨e346, hg347⟩
           have hb348 := low0 hb311 hg347
           refine Xj ?_
           refine ⟨.bool (((decide (m.t.kind = 4)) || (decide ((m.t.queue.length : Int) = 0))) && (((decide (m.t.kind = 5)) && inR m.t.to 1 8) || ((!(decide (m.t.kind = 5))) && (decide (m.t.to = 0))))), res1 rfl e346, ?_, hb348⟩
           exact congrArg Value.bool (Oq h148 h216 (Jn (p := numQ) ha (by omega)) (Jn (p := rightOk) hb (by omega)) h312)
end Go.Dw.J
end
section
namespace Go.Dw.J
open Go.RowKit Go.Dw Go.Proofs
set_option linter.unusedSectionVars false
set_option maxRecDepth 100000
set_option maxHeartbeats 4000000
set_option linter.unusedSimpArgs false
set_option linter.unusedVariables false
theorem Pc : goFn Try.prog 20 = true := by kernel_rfl
theorem Pd : goFn Try.prog 45 = true := by kernel_rfl
theorem Eo : goFn Try.prog 47 = true := by kernel_rfl
theorem Eu : goFn Try.prog 96 = true := by kernel_rfl
theorem Td : zeroTy Try.prog 25 = some (.agg #[.int .i64 0, .int .i64 0]) := by kernel_rfl
theorem Q6 : zeroTy Try.prog 35 = some (.agg #[.int .i64 0, .int .i64 0, .int .i64 0, .int .i64 0, .int .i64 0, .slice none 0 0, .slice none 0 0, .int .i64 0]) := by kernel_rfl
theorem Sy [Comp] (w : World) (xs : List Rt) (a : Option Addr) (c : Nat) (hs : SlAt w a 5 (xs.map Rt.cells)) (hc : a = none → c = 0) (hn : xs.length ≤ 1048576) : CallsR Try.prog 96 #[.slice a xs.length c] w (fun v w' => ∃ (a' : Option Addr) (cap' : Nat), v = .slice a' xs.length cap' ∧ OwnN w.heap.size w' a' 74 5 cap' xs.length (xs.flatMap Rt.cells) ∧ w.grownBy w' none) := by
 refine Xp (n := 5) Try.func96 rfl Try.ntmps96 rfl ?_
 have hb0 := World.grownBy.refl w none
 refine Xa ?_
 refine wpo_assign (v := .slice none 0 0) rfl rfl ?_
 refine wpo_nil ?_
 refine Xa ?_
 refine wpo_move (v := .slice a xs.length c) rfl rfl ?_
 refine wpo_appendN (g := Rt.cells) (ys := []) (zs := xs) (lo := w.heap.size) S5 rfl Y5 (by omega) L4 rfl rfl OwnN.nil (SlAt.low hs hb0) hc (by first | omega | exact Nat.le_of_ble_eq_true rfl | (simp only [List.length_nil, List.length_cons, List.length_append, List.length_replicate]; omega)) (by omega) hb0.size rfl ?_
 intro a101 cap102 w103 hO104 hg105 hor106
 have hb107 := low0 hb0 hg105
 refine wpo_assign (v := .slice a101 xs.length cap102) rfl rfl ?_
 refine wpo_nil ?_
 refine Xj ?_
 refine ⟨.slice a101 xs.length cap102, res1 rfl rfl, a101, cap102, rfl, hO104, hb107⟩
theorem S2 [Comp] (w : World) : CallsR Try.prog 47 #[.agg #[.int .i64 0, .int .i64 0, .bool false, .bool false, .bool false, .int .i64 0, .int .i64 0, .bool false, .bool false, .bool false, .int .i64 0, .int .i64 0, .bool false, .bool false, .bool false, .int .i64 0, .int .i64 0, .bool false, .bool false, .bool false]] w (fun v w' => ∃ (B cap : Nat), v = .slice (some ⟨B, 0, none⟩) 4 cap ∧ w.heap.size ≤ B ∧ Dw.Own w' B 74 5 cap 4 (zeros4.flatMap Rt.cells) ∧ w.grownBy w' none) := by
 refine Xp (n := 5) Try.func47 rfl Try.ntmps47 rfl ?_
 have hb0 := World.grownBy.refl w none
 refine Xa ?_
 refine wpo_box (v := .agg #[.int .i64 0, .int .i64 0, .bool false, .bool false, .bool false, .int .i64 0, .int .i64 0, .bool false, .bool false, .bool false, .int .i64 0, .int .i64 0, .bool false, .bool false, .bool false, .int .i64 0, .int .i64 0, .bool false, .bool false, .bool false]) (cs := #[.int .i64 0, .int .i64 0, .bool false, .bool false, .bool false, .int .i64 0, .int .i64 0, .bool false, .bool false, .bool false, .int .i64 0, .int .i64 0, .bool false, .bool false, .bool false, .int .i64 0, .int .i64 0, .bool false, .bool false, .bool false]) rfl rfl rfl ?_
 intro B101 w102 hN103
 have hlB101 := X1 hN103 hb0
 have hb104 := low0 hb0 hN103.grw
 refine wpo_assign (v := .slice none 0 0) rfl rfl ?_
 refine wpo_nil ?_
 refine Xa ?_
 have k105 : Blk w102 B101 77 (zeros4.flatMap Rt.cells).toArray := hN103.blk
 refine wpo_sliceArr M1 rfl (by omega) rfl ?_
 refine Xh (vs := [.slice (some ⟨B101, 0, none⟩) 4 4]) Eu (Xb rfl Xg) rfl (Sy _ zeros4 _ _ (Je Y5 k105) (fun h => by cases h) (by first | omega | exact Nat.le_of_ble_eq_true rfl | (simp only [List.length_nil, List.length_cons, List.length_append, List.length_replicate]; omega))) ?_
 rintro _ w110 ⟨a106, cap107, rfl, hO108, hg109⟩
 have hb111 := low0 hb104 hg109
 have hO112 := OwnN.mono hO108 hb104.size
 refine wpo_assign (v := .slice a106 4 cap107) rfl rfl ?_
 refine wpo_nil ?_
 refine Xj ?_
 obtain ⟨B113, h114, h115, h116⟩ := OwnN.some_ hO112 (by decide)
 refine ⟨.slice a106 4 cap107, res1 rfl rfl, B113, cap107, by rw [h114], h115, h116, hb111⟩
theorem Nx [Comp] (k to : Int) (l : Lab) (hk : ((decide (k = 2)) || (decide (k = 3))) = true) (hok : newOk k l to = true) (w : World) : CallsR Try.prog 17 #[.int .i64 k, .agg #[.int .i64 l.s, .int .i64 l.v], .int .i64 to] w (fun v w' => ∃ (S sc : Nat), v = .tuple #[.agg #[.int .i64 k, .int .i64 l.s, .int .i64 l.v, .int .i64 0, .int .i64 0, .slice (some ⟨S, 0, none⟩) 4 sc, .slice none 0 0, .int .i64 to], .bool true] ∧ w.heap.size ≤ S ∧ Dw.Own w' S 74 5 sc 4 (zeros4.flatMap Rt.cells) ∧ w.grownBy w' none) := by
 refine Xp (n := 27) Try.func17 rfl Try.ntmps17 rfl ?_
 have hb0 := World.grownBy.refl w none
 have hlit : thingOk (⟨k, l, 0, 0, zeros4, [], to⟩ : Th) = true := (Vd hk).symm.trans hok
 refine Xa ?_
 refine wpo_box (v := .agg #[.int .i64 l.s, .int .i64 l.v]) (cs := #[.int .i64 l.s, .int .i64 l.v]) rfl rfl rfl ?_
 intro B101 w102 hN103
 have hlB101 := X1 hN103 hb0
 have hb104 := low0 hb0 hN103.grw
 refine wpo_alloc (cs := #[.int .i64 0, .int .i64 0, .int .i64 0, .int .i64 0, .int .i64 0, .slice none 0 0, .slice none 0 0, .int .i64 0]) Q6 rfl rfl ?_
 intro B105 w106 hN107
 have hlB105 := X1 hN107 hb104
 have lt_B101_B105 := Xo hN107 (hN103.blk).lt
 have hb108 := low0 hb104 hN107.grw
 refine wpo_assign (v := .bool false) rfl rfl ?_
 refine wpo_nil ?_
 refine Xa ?_
 refine wpo_move (v := .int .i64 k) rfl rfl ?_
 have k109 := (hN103.blk.grown0 hN107.grw)
 refine wpo_loadn (vs := [.int .i64 l.s, .int .i64 l.v]) Yr rfl rfl (k109.rangeL 0 2 rfl) rfl ?_
 refine wpo_move (v := .int .i64 to) rfl rfl ?_
 refine wpo_build (ps := [(0, .int .i64 k), (1, .agg #[.int .i64 l.s, .int .i64 l.v]), (6, .int .i64 to)]) (v := .agg #[.int .i64 k, .int .i64 l.s, .int .i64 l.v, .int .i64 0, .int .i64 0, .slice none 0 0, .slice none 0 0, .int .i64 to]) (Xm rfl (Xm rfl (Xm rfl Xw))) (fun _ => by kernel_rfl) rfl ?_
 refine wpo_alloc (cs := #[.int .i64 0, .int .i64 0, .int .i64 0, .int .i64 0, .int .i64 0, .slice none 0 0, .slice none 0 0, .int .i64 0]) Q6 rfl rfl ?_
 intro B110 w111 hN112
 have hlB110 := X1 hN112 hb108
 have lt_B101_B110 := Xo hN112 (k109).lt
 have lt_B105_B110 := Xo hN112 (hN107.blk).lt
 have hb113 := low0 hb108 hN112.grw
 refine wpo_storen (vs := [.int .i64 k, .int .i64 l.s, .int .i64 l.v, .int .i64 0, .int .i64 0, .slice none 0 0, .slice none 0 0, .int .i64 to]) (cs' := #[.int .i64 k, .int .i64 l.s, .int .i64 l.v, .int .i64 0, .int .i64 0, .slice none 0 0, .slice none 0 0, .int .i64 to]) Xx rfl rfl rfl (by simp [Value.oneCell']) hN112.blk (Nat.le_of_ble_eq_true rfl) rfl ?_
 intro w114 hS115
 have hb116 := low1 hb113 hS115.grw (by omega)
 refine wpo_nil ?_
 refine Xi ?_
 refine Xs (fun f' w' => (f' 6 = .pointer (some ⟨B105, 0, none⟩) ∧ f' 7 = .bool false ∧ f' 8 = .pointer (some ⟨B110, 0, none⟩) ∧ f' 18 = .bool ((decide (k = 2)) || (decide (k = 3)))) ∧ w114 = w') ?_ ?_
 ·
  refine wpo_move (v := .int .i64 k) rfl rfl ?_
  refine wpo_eql (q := decide (k = 2)) rfl rfl rfl rfl ?_
  refine wpo_move (v := .bool (decide (k = 2))) rfl rfl ?_
  rcases Xy (decide (k = 2)) with h117 | h117
  ·
   have h118 := of_decide_eq_true h117
   refine Xe rfl rfl rfl h117 rfl ?_
   refine Xe rfl rfl rfl h117 rfl ?_
   refine wpo_pickt (v := .bool true) rfl h117 rfl rfl ?_
   exact wpo_nil ⟨⟨rfl, rfl, rfl, (congrArg Value.bool (by first | (simp only [h117, hk, hlit, b0, b1, b2, b3, b4, b5, b6, b7, b8, b9]; done) | simp [h117, hk, hlit]))⟩, rfl⟩
  ·
   have h119 := of_decide_eq_false h117
   refine Xc rfl rfl rfl h117 ?_
   refine wpo_move (v := .int .i64 k) rfl rfl ?_
   refine Xc rfl rfl rfl h117 ?_
   refine wpo_eql (q := decide (k = 3)) rfl rfl rfl rfl ?_
   refine wpo_pickf (v := .bool (decide (k = 3))) rfl h117 rfl rfl ?_
   exact wpo_nil ⟨⟨rfl, rfl, rfl, (congrArg Value.bool (by first | (simp only [h117, hk, hlit, b0, b1, b2, b3, b4, b5, b6, b7, b8, b9]; done) | simp [h117, hk, hlit]))⟩, rfl⟩
 ·
  rintro f120 w121 ⟨⟨e122, e123, e124, e125⟩, rfl⟩
  refine X8 e125 hk ?_
  refine Xl ?_
  refine wpo_build (ps := []) (v := .agg #[.int .i64 0, .int .i64 0, .bool false, .bool false, .bool false, .int .i64 0, .int .i64 0, .bool false, .bool false, .bool false, .int .i64 0, .int .i64 0, .bool false, .bool false, .bool false, .int .i64 0, .int .i64 0, .bool false, .bool false, .bool false]) Xw (fun _ => by kernel_rfl) rfl ?_
  have k126 := ((k109.grown0 hN112.grw).gn hS115.grw)
  have k127 := ((hN107.blk.grown0 hN112.grw).gn hS115.grw)
  refine Xh (vs := [.agg #[.int .i64 0, .int .i64 0, .bool false, .bool false, .bool false, .int .i64 0, .int .i64 0, .bool false, .bool false, .bool false, .int .i64 0, .int .i64 0, .bool false, .bool false, .bool false, .int .i64 0, .int .i64 0, .bool false, .bool false, .bool false]]) Eo (Xb rfl Xg) rfl (S2 _) ?_
  rintro _ w133 ⟨B128, cap129, rfl, hge130, hO131, hg132⟩
  have hb134 := low0 hb116 hg132
  have hlB128 := Nat.le_trans hb116.size hge130
  have lt_B101_B128 := Nat.lt_of_lt_of_le (k126).lt hge130
  have lt_B105_B128 := Nat.lt_of_lt_of_le (k127).lt hge130
  have lt_B110_B128 := Nat.lt_of_lt_of_le (hS115.blk).lt hge130
  refine wpo_fieldAddr (o' := 5) Y2 e124 rfl rfl ?_
  have k135 := (hS115.blk.grown0 hg132)
  refine wpo_store1 (v := .slice (some ⟨B128, 0, none⟩) 4 cap129) (cs' := #[.int .i64 k, .int .i64 l.s, .int .i64 l.v, .int .i64 0, .int .i64 0, .slice (some ⟨B128, 0, none⟩) 4 cap129, .slice none 0 0, .int .i64 to]) Jc rfl rfl rfl k135 (Nat.le_of_ble_eq_true rfl) rfl ?_
  intro w136 hS137
  have hb138 := low1 hb134 hS137.grw (by omega)
  refine wpo_nil ?_
  refine Xn ?_
  refine Xi ?_
  refine Xa ?_
  refine wpo_loadn (vs := [.int .i64 k, .int .i64 l.s, .int .i64 l.v, .int .i64 0, .int .i64 0, .slice (some ⟨B128, 0, none⟩) 4 cap129, .slice none 0 0, .int .i64 to]) Xx e124 rfl (hS137.blk.rangeL 0 8 rfl) rfl ?_
  have k139 := (hO131.gn hS137.grw)
  refine Xh (vs := [.agg #[.int .i64 k, .int .i64 l.s, .int .i64 l.v, .int .i64 0, .int .i64 0, .slice (some ⟨B128, 0, none⟩) 4 cap129, .slice none 0 0, .int .i64 to]]) Pc (Xb rfl Xg) rfl (Vg (⟨⟨k, l, 0, 0, zeros4, [], to⟩, some ⟨B128, 0, none⟩, cap129, none, 0⟩ : MTh) _ (Own.sl Y5 k139) SlAt.nil (by first | omega | exact Nat.le_of_ble_eq_true rfl | (simp only [List.length_nil, List.length_cons, List.length_append, List.length_replicate]; omega)) (by first | omega | exact Nat.le_of_ble_eq_true rfl | (simp only [List.length_nil, List.length_cons, List.length_append, List.length_replicate]; omega))) ?_
  rintro _ w140 ⟨rfl, hg141⟩
  have hb142 := low0 hb138 hg141
  refine wpo_not (b' := !thingOk (⟨k, l, 0, 0, zeros4, [], to⟩ : Th)) rfl rfl rfl ?_
  refine wpo_nil ?_
  refine Ya rfl (Jt hlit) ?_
  refine Xk ?_
  refine Xn ?_
  refine Xa ?_
  have k143 := (hS137.blk.grown0 hg141)
  refine wpo_loadn (vs := [.int .i64 k, .int .i64 l.s, .int .i64 l.v, .int .i64 0, .int .i64 0, .slice (some ⟨B128, 0, none⟩) 4 cap129, .slice none 0 0, .int .i64 to]) Xx e124 rfl (k143.rangeL 0 8 rfl) rfl ?_
  have k144 := (((k127.grown0 hg132).gn hS137.grw).grown0 hg141)
  refine wpo_storen (vs := [.int .i64 k, .int .i64 l.s, .int .i64 l.v, .int .i64 0, .int .i64 0, .slice (some ⟨B128, 0, none⟩) 4 cap129, .slice none 0 0, .int .i64 to]) (cs' := #[.int .i64 k, .int .i64 l.s, .int .i64 l.v, .int .i64 0, .int .i64 0, .slice (some ⟨B128, 0, none⟩) 4 cap129, .slice none 0 0, .int .i64 to]) Xx e122 rfl rfl (by simp [Value.oneCell']) k144 (Nat.le_of_ble_eq_true rfl) rfl ?_
  intro w145 hS146
  have hb147 := low1 hb142 hS146.grw (by omega)
  refine wpo_assign (v := .bool true) rfl rfl ?_
  refine wpo_nil ?_
  refine Xj ?_
  have k148 := ((k139.grown0 hg141).gn hS146.grw)
  refine ⟨.tuple #[.agg #[.int .i64 k, .int .i64 l.s, .int .i64 l.v, .int .i64 0, .int .i64 0, .slice (some ⟨B128, 0, none⟩) 4 cap129, .slice none 0 0, .int .i64 to], .bool true], resCT rfl (resCell_mk (vs := [.int .i64 k, .int .i64 l.s, .int .i64 l.v, .int .i64 0, .int .i64 0, .slice (some ⟨B128, 0, none⟩) 4 cap129, .slice none 0 0, .int .i64 to]) Xx e122 rfl (hS146.blk.rangeL 0 8 rfl)) rfl, B128, cap129, rfl, hlB128, k148, hb147⟩
theorem Nw [Comp] (k to : Int) (l : Lab) (hk : ((decide (k = 2)) || (decide (k = 3))) = true) (hok : newOk k l to = false) (w : World) : CallsR Try.prog 17 #[.int .i64 k, .agg #[.int .i64 l.s, .int .i64 l.v], .int .i64 to] w (fun v w' => v = .tuple #[.agg #[.int .i64 0, .int .i64 0, .int .i64 0, .int .i64 0, .int .i64 0, .slice none 0 0, .slice none 0 0, .int .i64 0], .bool false] ∧ w.grownBy w' none) := by
 refine Xp (n := 27) Try.func17 rfl Try.ntmps17 rfl ?_
 have hb0 := World.grownBy.refl w none
 have hlit : thingOk (⟨k, l, 0, 0, zeros4, [], to⟩ : Th) = false := (Vd hk).symm.trans hok
 refine Xa ?_
 refine wpo_box (v := .agg #[.int .i64 l.s, .int .i64 l.v]) (cs := #[.int .i64 l.s, .int .i64 l.v]) rfl rfl rfl ?_
 intro B101 w102 hN103
 have hlB101 := X1 hN103 hb0
 have hb104 := low0 hb0 hN103.grw
 refine wpo_alloc (cs := #[.int .i64 0, .int .i64 0, .int .i64 0, .int .i64 0, .int .i64 0, .slice none 0 0, .slice none 0 0, .int .i64 0]) Q6 rfl rfl ?_
 intro B105 w106 hN107
 have hlB105 := X1 hN107 hb104
 have lt_B101_B105 := Xo hN107 (hN103.blk).lt
 have hb108 := low0 hb104 hN107.grw
 refine wpo_assign (v := .bool false) rfl rfl ?_
 refine wpo_nil ?_
 refine Xa ?_
 refine wpo_move (v := .int .i64 k) rfl rfl ?_
 have k109 := (hN103.blk.grown0 hN107.grw)
 refine wpo_loadn (vs := [.int .i64 l.s, .int .i64 l.v]) Yr rfl rfl (k109.rangeL 0 2 rfl) rfl ?_
 refine wpo_move (v := .int .i64 to) rfl rfl ?_
 refine wpo_build (ps := [(0, .int .i64 k), (1, .agg #[.int .i64 l.s, .int .i64 l.v]), (6, .int .i64 to)]) (v := .agg #[.int .i64 k, .int .i64 l.s, .int .i64 l.v, .int .i64 0, .int .i64 0, .slice none 0 0, .slice none 0 0, .int .i64 to]) (Xm rfl (Xm rfl (Xm rfl Xw))) (fun _ => by kernel_rfl) rfl ?_
 refine wpo_alloc (cs := #[.int .i64 0, .int .i64 0, .int .i64 0, .int .i64 0, .int .i64 0, .slice none 0 0, .slice none 0 0, .int .i64 0]) Q6 rfl rfl ?_
 intro B110 w111 hN112
 have hlB110 := X1 hN112 hb108
 have lt_B101_B110 := Xo hN112 (k109).lt
 have lt_B105_B110 := Xo hN112 (hN107.blk).lt
 have hb113 := low0 hb108 hN112.grw
 refine wpo_storen (vs := [.int .i64 k, .int .i64 l.s, .int .i64 l.v, .int .i64 0, .int .i64 0, .slice none 0 0, .slice none 0 0, .int .i64 to]) (cs' := #[.int .i64 k, .int .i64 l.s, .int .i64 l.v, .int .i64 0, .int .i64 0, .slice none 0 0, .slice none 0 0, .int .i64 to]) Xx rfl rfl rfl (by simp [Value.oneCell']) hN112.blk (Nat.le_of_ble_eq_true rfl) rfl ?_
 intro w114 hS115
 have hb116 := low1 hb113 hS115.grw (by omega)
 refine wpo_nil ?_
 refine Xi ?_
 refine Xs (fun f' w' => (f' 6 = .pointer (some ⟨B105, 0, none⟩) ∧ f' 7 = .bool false ∧ f' 8 = .pointer (some ⟨B110, 0, none⟩) ∧ f' 18 = .bool ((decide (k = 2)) || (decide (k = 3)))) ∧ w114 = w') ?_ ?_
 ·
  refine wpo_move (v := .int .i64 k) rfl rfl ?_
  refine wpo_eql (q := decide (k = 2)) rfl rfl rfl rfl ?_
  refine wpo_move (v := .bool (decide (k = 2))) rfl rfl ?_
  rcases Xy (decide (k = 2)) with h117 | h117
  ·
   have h118 := of_decide_eq_true h117
   refine Xe rfl rfl rfl h117 rfl ?_
   refine Xe rfl rfl rfl h117 rfl ?_
   refine wpo_pickt (v := .bool true) rfl h117 rfl rfl ?_
   exact wpo_nil ⟨⟨rfl, rfl, rfl, (congrArg Value.bool (by first | (simp only [h117, hk, hlit, b0, b1, b2, b3, b4, b5, b6, b7, b8, b9]; done) | simp [h117, hk, hlit]))⟩, rfl⟩
  ·
   have h119 := of_decide_eq_false h117
   refine Xc rfl rfl rfl h117 ?_
   refine wpo_move (v := .int .i64 k) rfl rfl ?_
   refine Xc rfl rfl rfl h117 ?_
   refine wpo_eql (q := decide (k = 3)) rfl rfl rfl rfl ?_
   refine wpo_pickf (v := .bool (decide (k = 3))) rfl h117 rfl rfl ?_
   exact wpo_nil ⟨⟨rfl, rfl, rfl, (congrArg Value.bool (by first | (simp only [h117, hk, hlit, b0, b1, b2, b3, b4, b5, b6, b7, b8, b9]; done) | simp [h117, hk, hlit]))⟩, rfl⟩
 ·
  rintro f120 w121 ⟨⟨e122, e123, e124, e125⟩, rfl⟩
  refine X8 e125 hk ?_
  refine Xl ?_
  refine wpo_build (ps := []) (v := .agg #[.int .i64 0, .int .i64 0, .bool false, .bool false, .bool false, .int .i64 0, .int .i64 0, .bool false, .bool false, .bool false, .int .i64 0, .int .i64 0, .bool false, .bool false, .bool false, .int .i64 0, .int .i64 0, .bool false, .bool false, .bool false]) Xw (fun _ => by kernel_rfl) rfl ?_
  have k126 := ((k109.grown0 hN112.grw).gn hS115.grw)
  have k127 := ((hN107.blk.grown0 hN112.grw).gn hS115.grw)
  refine Xh (vs := [.agg #[.int .i64 0, .int .i64 0, .bool false, .bool false, .bool false, .int .i64 0, .int .i64 0, .bool false, .bool false, .bool false, .int .i64 0, .int .i64 0, .bool false, .bool false, .bool false, .int .i64 0, .int .i64 0, .bool false, .bool false, .bool false]]) Eo (Xb rfl Xg) rfl (S2 _) ?_
  rintro _ w133 ⟨B128, cap129, rfl, hge130, hO131, hg132⟩
  have hb134 := low0 hb116 hg132
  have hlB128 := Nat.le_trans hb116.size hge130
  have lt_B101_B128 := Nat.lt_of_lt_of_le (k126).lt hge130
  have lt_B105_B128 := Nat.lt_of_lt_of_le (k127).lt hge130
  have lt_B110_B128 := Nat.lt_of_lt_of_le (hS115.blk).lt hge130
  refine wpo_fieldAddr (o' := 5) Y2 e124 rfl rfl ?_
  have k135 := (hS115.blk.grown0 hg132)
  refine wpo_store1 (v := .slice (some ⟨B128, 0, none⟩) 4 cap129) (cs' := #[.int .i64 k, .int .i64 l.s, .int .i64 l.v, .int .i64 0, .int .i64 0, .slice (some ⟨B128, 0, none⟩) 4 cap129, .slice none 0 0, .int .i64 to]) Jc rfl rfl rfl k135 (Nat.le_of_ble_eq_true rfl) rfl ?_
  intro w136 hS137
  have hb138 := low1 hb134 hS137.grw (by omega)
  refine wpo_nil ?_
  refine Xn ?_
  refine Xi ?_
  refine Xa ?_
  refine wpo_loadn (vs := [.int .i64 k, .int .i64 l.s, .int .i64 l.v, .int .i64 0, .int .i64 0, .slice (some ⟨B128, 0, none⟩) 4 cap129, .slice none 0 0, .int .i64 to]) Xx e124 rfl (hS137.blk.rangeL 0 8 rfl) rfl ?_
  have k139 := (hO131.gn hS137.grw)
  refine Xh (vs := [.agg #[.int .i64 k, .int .i64 l.s, .int .i64 l.v, .int .i64 0, .int .i64 0, .slice (some ⟨B128, 0, none⟩) 4 cap129, .slice none 0 0, .int .i64 to]]) Pc (Xb rfl Xg) rfl (Vg (⟨⟨k, l, 0, 0, zeros4, [], to⟩, some ⟨B128, 0, none⟩, cap129, none, 0⟩ : MTh) _ (Own.sl Y5 k139) SlAt.nil (by first | omega | exact Nat.le_of_ble_eq_true rfl | (simp only [List.length_nil, List.length_cons, List.length_append, List.length_replicate]; omega)) (by first | omega | exact Nat.le_of_ble_eq_true rfl | (simp only [List.length_nil, List.length_cons, List.length_append, List.length_replicate]; omega))) ?_
  rintro _ w140 ⟨rfl, hg141⟩
  have hb142 := low0 hb138 hg141
  refine wpo_not (b' := !thingOk (⟨k, l, 0, 0, zeros4, [], to⟩ : Th)) rfl rfl rfl ?_
  refine wpo_nil ?_
  refine X8 rfl (Qr hlit) ?_
  refine Xa ?_
  refine wpo_build (ps := []) (v := .agg #[.int .i64 0, .int .i64 0, .int .i64 0, .int .i64 0, .int .i64 0, .slice none 0 0, .slice none 0 0, .int .i64 0]) Xw (fun _ => by kernel_rfl) rfl ?_
  have k143 := (((k127.grown0 hg132).gn hS137.grw).grown0 hg141)
  refine wpo_storen (vs := [.int .i64 0, .int .i64 0, .int .i64 0, .int .i64 0, .int .i64 0, .slice none 0 0, .slice none 0 0, .int .i64 0]) (cs' := #[.int .i64 0, .int .i64 0, .int .i64 0, .int .i64 0, .int .i64 0, .slice none 0 0, .slice none 0 0, .int .i64 0]) Xx e122 rfl rfl (by simp [Value.oneCell']) k143 (Nat.le_of_ble_eq_true rfl) rfl ?_
  intro w144 hS145
  have hb146 := low1 hb142 hS145.grw (by omega)
  refine wpo_assign (v := .bool false) rfl rfl ?_
  refine wpo_nil ?_
  refine Xj ?_
  refine X7 ?_
  refine ⟨.tuple #[.agg #[.int .i64 0, .int .i64 0, .int .i64 0, .int .i64 0, .int .i64 0, .slice none 0 0, .slice none 0 0, .int .i64 0], .bool false], resCT rfl (resCell_mk (vs := [.int .i64 0, .int .i64 0, .int .i64 0, .int .i64 0, .int .i64 0, .slice none 0 0, .slice none 0 0, .int .i64 0]) Xx e122 rfl (hS145.blk.rangeL 0 8 rfl)) rfl, rfl, hb146⟩
theorem Nv [Comp] (k to : Int) (l : Lab) (hk : ((decide (k = 2)) || (decide (k = 3))) = false) (hok : newOk k l to = true) (w : World) : CallsR Try.prog 17 #[.int .i64 k, .agg #[.int .i64 l.s, .int .i64 l.v], .int .i64 to] w (fun v w' => v = .tuple #[.agg #[.int .i64 k, .int .i64 l.s, .int .i64 l.v, .int .i64 0, .int .i64 0, .slice none 0 0, .slice none 0 0, .int .i64 to], .bool true] ∧ w.grownBy w' none) := by
 refine Xp (n := 27) Try.func17 rfl Try.ntmps17 rfl ?_
 have hb0 := World.grownBy.refl w none
 have hlit : thingOk (⟨k, l, 0, 0, [], [], to⟩ : Th) = true := (Jv hk).symm.trans hok
 have h101 : decide (k = 2) = false := J5 hk
 have h102 : decide (k = 3) = false := J6 hk
 refine Xa ?_
 refine wpo_box (v := .agg #[.int .i64 l.s, .int .i64 l.v]) (cs := #[.int .i64 l.s, .int .i64 l.v]) rfl rfl rfl ?_
 intro B103 w104 hN105
 have hlB103 := X1 hN105 hb0
 have hb106 := low0 hb0 hN105.grw
 refine wpo_alloc (cs := #[.int .i64 0, .int .i64 0, .int .i64 0, .int .i64 0, .int .i64 0, .slice none 0 0, .slice none 0 0, .int .i64 0]) Q6 rfl rfl ?_
 intro B107 w108 hN109
 have hlB107 := X1 hN109 hb106
 have lt_B103_B107 := Xo hN109 (hN105.blk).lt
 have hb110 := low0 hb106 hN109.grw
 refine wpo_assign (v := .bool false) rfl rfl ?_
 refine wpo_nil ?_
 refine Xa ?_
 refine wpo_move (v := .int .i64 k) rfl rfl ?_
 have k111 := (hN105.blk.grown0 hN109.grw)
 refine wpo_loadn (vs := [.int .i64 l.s, .int .i64 l.v]) Yr rfl rfl (k111.rangeL 0 2 rfl) rfl ?_
 refine wpo_move (v := .int .i64 to) rfl rfl ?_
 refine wpo_build (ps := [(0, .int .i64 k), (1, .agg #[.int .i64 l.s, .int .i64 l.v]), (6, .int .i64 to)]) (v := .agg #[.int .i64 k, .int .i64 l.s, .int .i64 l.v, .int .i64 0, .int .i64 0, .slice none 0 0, .slice none 0 0, .int .i64 to]) (Xm rfl (Xm rfl (Xm rfl Xw))) (fun _ => by kernel_rfl) rfl ?_
 refine wpo_alloc (cs := #[.int .i64 0, .int .i64 0, .int .i64 0, .int .i64 0, .int .i64 0, .slice none 0 0, .slice none 0 0, .int .i64 0]) Q6 rfl rfl ?_
 intro B112 w113 hN114
 have hlB112 := X1 hN114 hb110
 have lt_B103_B112 := Xo hN114 (k111).lt
 have lt_B107_B112 := Xo hN114 (hN109.blk).lt
 have hb115 := low0 hb110 hN114.grw
 refine wpo_storen (vs := [.int .i64 k, .int .i64 l.s, .int .i64 l.v, .int .i64 0, .int .i64 0, .slice none 0 0, .slice none 0 0, .int .i64 to]) (cs' := #[.int .i64 k, .int .i64 l.s, .int .i64 l.v, .int .i64 0, .int .i64 0, .slice none 0 0, .slice none 0 0, .int .i64 to]) Xx rfl rfl rfl (by simp [Value.oneCell']) hN114.blk (Nat.le_of_ble_eq_true rfl) rfl ?_
 intro w116 hS117
 have hb118 := low1 hb115 hS117.grw (by omega)
 refine wpo_nil ?_
 refine Xi ?_
 refine Xa ?_
 refine wpo_move (v := .int .i64 k) rfl rfl ?_
 refine wpo_eql (q := decide (k = 2)) rfl rfl rfl rfl ?_
 refine wpo_move (v := .bool (decide (k = 2))) rfl rfl ?_
 refine Xc rfl rfl rfl h101 ?_
 refine wpo_move (v := .int .i64 k) rfl rfl ?_
 refine Xc rfl rfl rfl h101 ?_
 refine wpo_eql (q := decide (k = 3)) rfl rfl rfl rfl ?_
 refine wpo_pickf (v := .bool (decide (k = 3))) rfl h101 rfl rfl ?_
 refine wpo_nil ?_
 refine Ya rfl h102 ?_
 refine Xk ?_
 refine Xn ?_
 refine Xi ?_
 refine Xa ?_
 refine wpo_loadn (vs := [.int .i64 k, .int .i64 l.s, .int .i64 l.v, .int .i64 0, .int .i64 0, .slice none 0 0, .slice none 0 0, .int .i64 to]) Xx rfl rfl (hS117.blk.rangeL 0 8 rfl) rfl ?_
 refine Xh (vs := [.agg #[.int .i64 k, .int .i64 l.s, .int .i64 l.v, .int .i64 0, .int .i64 0, .slice none 0 0, .slice none 0 0, .int .i64 to]]) Pc (Xb rfl Xg) rfl (Vg (⟨⟨k, l, 0, 0, [], [], to⟩, none, 0, none, 0⟩ : MTh) _ SlAt.nil SlAt.nil (by first | omega | exact Nat.le_of_ble_eq_true rfl | (simp only [List.length_nil, List.length_cons, List.length_append, List.length_replicate]; omega)) (by first | omega | exact Nat.le_of_ble_eq_true rfl | (simp only [List.length_nil, List.length_cons, List.length_append, List.length_replicate]; omega))) ?_
 rintro _ w119 ⟨rfl, hg120⟩
 have hb121 := low0 hb118 hg120
 refine wpo_not (b' := !thingOk (⟨k, l, 0, 0, [], [], to⟩ : Th)) rfl rfl rfl ?_
 refine wpo_nil ?_
 refine Ya rfl (Jt hlit) ?_
 refine Xk ?_
 refine Xn ?_
 refine Xa ?_
 have k122 := (hS117.blk.grown0 hg120)
 refine wpo_loadn (vs := [.int .i64 k, .int .i64 l.s, .int .i64 l.v, .int .i64 0, .int .i64 0, .slice none 0 0, .slice none 0 0, .int .i64 to]) Xx rfl rfl (k122.rangeL 0 8 rfl) rfl ?_
 have k123 := (((hN109.blk.grown0 hN114.grw).gn hS117.grw).grown0 hg120)
 refine wpo_storen (vs := [.int .i64 k, .int .i64 l.s, .int .i64 l.v, .int .i64 0, .int .i64 0, .slice none 0 0, .slice none 0 0, .int .i64 to]) (cs' := #[.int .i64 k, .int .i64 l.s, .int .i64 l.v, .int .i64 0, .int .i64 0, .slice none 0 0, .slice none 0 0, .int .i64 to]) Xx rfl rfl rfl (by simp [Value.oneCell']) k123 (Nat.le_of_ble_eq_true rfl) rfl ?_
 intro w124 hS125
 have hb126 := low1 hb121 hS125.grw (by omega)
 refine wpo_assign (v := .bool true) rfl rfl ?_
 refine wpo_nil ?_
 refine Xj ?_
 refine ⟨.tuple #[.agg #[.int .i64 k, .int .i64 l.s, .int .i64 l.v, .int .i64 0, .int .i64 0, .slice none 0 0, .slice none 0 0, .int .i64 to], .bool true], resCT rfl (resCell_mk (vs := [.int .i64 k, .int .i64 l.s, .int .i64 l.v, .int .i64 0, .int .i64 0, .slice none 0 0, .slice none 0 0, .int .i64 to]) Xx rfl rfl (hS125.blk.rangeL 0 8 rfl)) rfl, rfl, hb126⟩
theorem Nu [Comp] (k to : Int) (l : Lab) (hk : ((decide (k = 2)) || (decide (k = 3))) = false) (hok : newOk k l to = false) (w : World) : CallsR Try.prog 17 #[.int .i64 k, .agg #[.int .i64 l.s, .int .i64 l.v], .int .i64 to] w (fun v w' => v = .tuple #[.agg #[.int .i64 0, .int .i64 0, .int .i64 0, .int .i64 0, .int .i64 0, .slice none 0 0, .slice none 0 0, .int .i64 0], .bool false] ∧ w.grownBy w' none) := by
 refine Xp (n := 27) Try.func17 rfl Try.ntmps17 rfl ?_
 have hb0 := World.grownBy.refl w none
 have hlit : thingOk (⟨k, l, 0, 0, [], [], to⟩ : Th) = false := (Jv hk).symm.trans hok
 have h101 : decide (k = 2) = false := J5 hk
 have h102 : decide (k = 3) = false := J6 hk
 refine Xa ?_
 refine wpo_box (v := .agg #[.int .i64 l.s, .int .i64 l.v]) (cs := #[.int .i64 l.s, .int .i64 l.v]) rfl rfl rfl ?_
 intro B103 w104 hN105
 have hlB103 := X1 hN105 hb0
 have hb106 := low0 hb0 hN105.grw
 refine wpo_alloc (cs := #[.int .i64 0, .int .i64 0, .int .i64 0, .int .i64 0, .int .i64 0, .slice none 0 0, .slice none 0 0, .int .i64 0]) Q6 rfl rfl ?_
 intro B107 w108 hN109
 have hlB107 := X1 hN109 hb106
 have lt_B103_B107 := Xo hN109 (hN105.blk).lt
 have hb110 := low0 hb106 hN109.grw
 refine wpo_assign (v := .bool false) rfl rfl ?_
 refine wpo_nil ?_
 refine Xa ?_
 refine wpo_move (v := .int .i64 k) rfl rfl ?_
 have k111 := (hN105.blk.grown0 hN109.grw)
 refine wpo_loadn (vs := [.int .i64 l.s, .int .i64 l.v]) Yr rfl rfl (k111.rangeL 0 2 rfl) rfl ?_
 refine wpo_move (v := .int .i64 to) rfl rfl ?_
 refine wpo_build (ps := [(0, .int .i64 k), (1, .agg #[.int .i64 l.s, .int .i64 l.v]), (6, .int .i64 to)]) (v := .agg #[.int .i64 k, .int .i64 l.s, .int .i64 l.v, .int .i64 0, .int .i64 0, .slice none 0 0, .slice none 0 0, .int .i64 to]) (Xm rfl (Xm rfl (Xm rfl Xw))) (fun _ => by kernel_rfl) rfl ?_
 refine wpo_alloc (cs := #[.int .i64 0, .int .i64 0, .int .i64 0, .int .i64 0, .int .i64 0, .slice none 0 0, .slice none 0 0, .int .i64 0]) Q6 rfl rfl ?_
 intro B112 w113 hN114
 have hlB112 := X1 hN114 hb110
 have lt_B103_B112 := Xo hN114 (k111).lt
 have lt_B107_B112 := Xo hN114 (hN109.blk).lt
 have hb115 := low0 hb110 hN114.grw
 refine wpo_storen (vs := [.int .i64 k, .int .i64 l.s, .int .i64 l.v, .int .i64 0, .int .i64 0, .slice none 0 0, .slice none 0 0, .int .i64 to]) (cs' := #[.int .i64 k, .int .i64 l.s, .int .i64 l.v, .int .i64 0, .int .i64 0, .slice none 0 0, .slice none 0 0, .int .i64 to]) Xx rfl rfl rfl (by simp [Value.oneCell']) hN114.blk (Nat.le_of_ble_eq_true rfl) rfl ?_
 intro w116 hS117
 have hb118 := low1 hb115 hS117.grw (by omega)
 refine wpo_nil ?_
 refine Xi ?_
 refine Xa ?_
 refine wpo_move (v := .int .i64 k) rfl rfl ?_
 refine wpo_eql (q := decide (k = 2)) rfl rfl rfl rfl ?_
 refine wpo_move (v := .bool (decide (k = 2))) rfl rfl ?_
 refine Xc rfl rfl rfl h101 ?_
 refine wpo_move (v := .int .i64 k) rfl rfl ?_
 refine Xc rfl rfl rfl h101 ?_
 refine wpo_eql (q := decide (k = 3)) rfl rfl rfl rfl ?_
 refine wpo_pickf (v := .bool (decide (k = 3))) rfl h101 rfl rfl ?_
 refine wpo_nil ?_
 refine Ya rfl h102 ?_
 refine Xk ?_
 refine Xn ?_
 refine Xi ?_
 refine Xa ?_
 refine wpo_loadn (vs := [.int .i64 k, .int .i64 l.s, .int .i64 l.v, .int .i64 0, .int .i64 0, .slice none 0 0, .slice none 0 0, .int .i64 to]) Xx rfl rfl (hS117.blk.rangeL 0 8 rfl) rfl ?_
 refine Xh (vs := [.agg #[.int .i64 k, .int .i64 l.s, .int .i64 l.v, .int .i64 0, .int .i64 0, .slice none 0 0, .slice none 0 0, .int .i64 to]]) Pc (Xb rfl Xg) rfl (Vg (⟨⟨k, l, 0, 0, [], [], to⟩, none, 0, none, 0⟩ : MTh) _ SlAt.nil SlAt.nil (by first | omega | exact Nat.le_of_ble_eq_true rfl | (simp only [List.length_nil, List.length_cons, List.length_append, List.length_replicate]; omega)) (by first | omega | exact Nat.le_of_ble_eq_true rfl | (simp only [List.length_nil, List.length_cons, List.length_append, List.length_replicate]; omega))) ?_
 rintro _ w119 ⟨rfl, hg120⟩
 have hb121 := low0 hb118 hg120
 refine wpo_not (b' := !thingOk (⟨k, l, 0, 0, [], [], to⟩ : Th)) rfl rfl rfl ?_
 refine wpo_nil ?_
 refine X8 rfl (Qr hlit) ?_
 refine Xa ?_
 refine wpo_build (ps := []) (v := .agg #[.int .i64 0, .int .i64 0, .int .i64 0, .int .i64 0, .int .i64 0, .slice none 0 0, .slice none 0 0, .int .i64 0]) Xw (fun _ => by kernel_rfl) rfl ?_
 have k122 := (((hN109.blk.grown0 hN114.grw).gn hS117.grw).grown0 hg120)
 refine wpo_storen (vs := [.int .i64 0, .int .i64 0, .int .i64 0, .int .i64 0, .int .i64 0, .slice none 0 0, .slice none 0 0, .int .i64 0]) (cs' := #[.int .i64 0, .int .i64 0, .int .i64 0, .int .i64 0, .int .i64 0, .slice none 0 0, .slice none 0 0, .int .i64 0]) Xx rfl rfl rfl (by simp [Value.oneCell']) k122 (Nat.le_of_ble_eq_true rfl) rfl ?_
 intro w123 hS124
 have hb125 := low1 hb121 hS124.grw (by omega)
 refine wpo_assign (v := .bool false) rfl rfl ?_
 refine wpo_nil ?_
 refine Xj ?_
 refine X7 ?_
 refine ⟨.tuple #[.agg #[.int .i64 0, .int .i64 0, .int .i64 0, .int .i64 0, .int .i64 0, .slice none 0 0, .slice none 0 0, .int .i64 0], .bool false], resCT rfl (resCell_mk (vs := [.int .i64 0, .int .i64 0, .int .i64 0, .int .i64 0, .int .i64 0, .slice none 0 0, .slice none 0 0, .int .i64 0]) Xx rfl rfl (hS124.blk.rangeL 0 8 rfl)) rfl, rfl, hb125⟩
theorem Wv [Comp] (k to : Int) (l : Lab) (hk : ((decide (k = 2)) || (decide (k = 3))) = true) (hok : newOk k l to = true) (w : World) : CallsR Try.prog 93 #[.int .i64 k, .agg #[.int .i64 l.s, .int .i64 l.v], .int .i64 to] w (fun v w' => ∃ (S sc Q qc : Nat), v = .tuple #[.agg #[.int .i64 k, .int .i64 l.s, .int .i64 l.v, .int .i64 0, .int .i64 0, .slice (some ⟨S, 0, none⟩) 4 sc, .slice (some ⟨Q, 0, none⟩) 0 qc, .int .i64 to], .bool true] ∧ w.heap.size ≤ S ∧ Dw.Own w' S 74 5 sc 4 (zeros4.flatMap Rt.cells) ∧ w.heap.size ≤ Q ∧ Dw.Own w' Q 3 1 qc 0 (([] : List Int).flatMap icell) ∧ S ≠ Q ∧ w.grownBy w' none) := by
 refine Xp (n := 24) Try.func93 rfl Try.ntmps93 rfl ?_
 have hb0 := World.grownBy.refl w none
 have hlit : thingOk (⟨k, l, 0, 0, zeros4, [], to⟩ : Th) = true := (Vd hk).symm.trans hok
 refine Xa ?_
 refine wpo_box (v := .agg #[.int .i64 l.s, .int .i64 l.v]) (cs := #[.int .i64 l.s, .int .i64 l.v]) rfl rfl rfl ?_
 intro B101 w102 hN103
 have hlB101 := X1 hN103 hb0
 have hb104 := low0 hb0 hN103.grw
 refine wpo_alloc (cs := #[.int .i64 0, .int .i64 0, .int .i64 0, .int .i64 0, .int .i64 0, .slice none 0 0, .slice none 0 0, .int .i64 0]) Q6 rfl rfl ?_
 intro B105 w106 hN107
 have hlB105 := X1 hN107 hb104
 have lt_B101_B105 := Xo hN107 (hN103.blk).lt
 have hb108 := low0 hb104 hN107.grw
 refine wpo_assign (v := .bool false) rfl rfl ?_
 refine wpo_nil ?_
 refine Xa ?_
 refine wpo_move (v := .int .i64 k) rfl rfl ?_
 have k109 := (hN103.blk.grown0 hN107.grw)
 refine wpo_loadn (vs := [.int .i64 l.s, .int .i64 l.v]) Yr rfl rfl (k109.rangeL 0 2 rfl) rfl ?_
 refine wpo_buildSlice (ps := []) (e := 74) (cs := (([] : List Rt).flatMap Rt.cells).toArray) Xw (fun _ => by kernel_rfl) rfl ?_
 intro B110 w111 hN112
 have hlB110 := X1 hN112 hb108
 have lt_B101_B110 := Xo hN112 (k109).lt
 have lt_B105_B110 := Xo hN112 (hN107.blk).lt
 have hb113 := low0 hb108 hN112.grw
 refine wpo_buildSlice (ps := []) (e := 3) (cs := (([] : List Int).flatMap icell).toArray) Xw (fun _ => by kernel_rfl) rfl ?_
 intro B114 w115 hN116
 have hlB114 := X1 hN116 hb113
 have k117 := (k109.grown0 hN112.grw)
 have lt_B101_B114 := Xo hN116 (k117).lt
 have k118 := (hN107.blk.grown0 hN112.grw)
 have lt_B105_B114 := Xo hN116 (k118).lt
 have lt_B110_B114 := Xo hN116 (hN112.blk).lt
 have hb119 := low0 hb113 hN116.grw
 refine wpo_move (v := .int .i64 to) rfl rfl ?_
 refine wpo_build (ps := [(0, .int .i64 k), (1, .agg #[.int .i64 l.s, .int .i64 l.v]), (4, .slice (some ⟨B110, 0, none⟩) 0 0), (5, .slice (some ⟨B114, 0, none⟩) 0 0), (6, .int .i64 to)]) (v := .agg #[.int .i64 k, .int .i64 l.s, .int .i64 l.v, .int .i64 0, .int .i64 0, .slice (some ⟨B110, 0, none⟩) 0 0, .slice (some ⟨B114, 0, none⟩) 0 0, .int .i64 to]) (Xm rfl (Xm rfl (Xm rfl (Xm rfl (Xm rfl Xw))))) (fun _ => by kernel_rfl) rfl ?_
 refine wpo_alloc (cs := #[.int .i64 0, .int .i64 0, .int .i64 0, .int .i64 0, .int .i64 0, .slice none 0 0, .slice none 0 0, .int .i64 0]) Q6 rfl rfl ?_
 intro B120 w121 hN122
 have hlB120 := X1 hN122 hb119
 have k123 := (k117.grown0 hN116.grw)
 have lt_B101_B120 := Xo hN122 (k123).lt
 have k124 := (k118.grown0 hN116.grw)
 have lt_B105_B120 := Xo hN122 (k124).lt
 have k125 := (hN112.blk.grown0 hN116.grw)
 have lt_B110_B120 := Xo hN122 (k125).lt
 have lt_B114_B120 := Xo hN122 (hN116.blk).lt
 have hb126 := low0 hb119 hN122.grw
 refine wpo_storen (vs := [.int .i64 k, .int .i64 l.s, .int .i64 l.v, .int .i64 0, .int .i64 0, .slice (some ⟨B110, 0, none⟩) 0 0, .slice (some ⟨B114, 0, none⟩) 0 0, .int .i64 to]) (cs' := #[.int .i64 k, .int .i64 l.s, .int .i64 l.v, .int .i64 0, .int .i64 0, .slice (some ⟨B110, 0, none⟩) 0 0, .slice (some ⟨B114, 0, none⟩) 0 0, .int .i64 to]) Xx rfl rfl rfl (by simp [Value.oneCell']) hN122.blk (Nat.le_of_ble_eq_true rfl) rfl ?_
 intro w127 hS128
 have hb129 := low1 hb126 hS128.grw (by omega)
 refine wpo_nil ?_
 refine Xi ?_
 refine Xa ?_
 refine wpo_move (v := .int .i64 k) rfl rfl ?_
 refine Xh (vs := [.int .i64 k]) Hg (Xb rfl Xg) rfl (Kc k _) ?_
 rintro _ w130 ⟨rfl, hg131⟩
 have hb132 := low0 hb129 hg131
 refine wpo_nil ?_
 refine X8 rfl hk ?_
 refine Xl ?_
 refine wpo_make (g := Rt.cells) (z := Rt.zero) (c := 4) S5 rfl Y5 (by omega) rfl rfl (by omega) (by omega) rfl ?_
 intro B133 w134 hN135
 have hlB133 := X1 hN135 hb132
 have k136 := (((k123.grown0 hN122.grw).gn hS128.grw).grown0 hg131)
 have lt_B101_B133 := Xo hN135 (k136).lt
 have k137 := (((k124.grown0 hN122.grw).gn hS128.grw).grown0 hg131)
 have lt_B105_B133 := Xo hN135 (k137).lt
 have k138 := (((k125.grown0 hN122.grw).gn hS128.grw).grown0 hg131)
 have lt_B110_B133 := Xo hN135 (k138).lt
 have k139 := (((hN116.blk.grown0 hN122.grw).gn hS128.grw).grown0 hg131)
 have lt_B114_B133 := Xo hN135 (k139).lt
 have k140 := (hS128.blk.grown0 hg131)
 have lt_B120_B133 := Xo hN135 (k140).lt
 have hb141 := low0 hb132 hN135.grw
 refine wpo_fieldAddr (o' := 5) Y2 rfl rfl rfl ?_
 have k142 := (k140.grown0 hN135.grw)
 refine wpo_store1 (v := .slice (some ⟨B133, 0, none⟩) 4 4) (cs' := #[.int .i64 k, .int .i64 l.s, .int .i64 l.v, .int .i64 0, .int .i64 0, .slice (some ⟨B133, 0, none⟩) 4 4, .slice (some ⟨B114, 0, none⟩) 0 0, .int .i64 to]) Jc rfl rfl rfl k142 (Nat.le_of_ble_eq_true rfl) rfl ?_
 intro w143 hS144
 have hb145 := low1 hb141 hS144.grw (by omega)
 refine wpo_nil ?_
 refine Xn ?_
 refine Xi ?_
 refine Xa ?_
 refine wpo_loadn (vs := [.int .i64 k, .int .i64 l.s, .int .i64 l.v, .int .i64 0, .int .i64 0, .slice (some ⟨B133, 0, none⟩) 4 4, .slice (some ⟨B114, 0, none⟩) 0 0, .int .i64 to]) Xx rfl rfl (hS144.blk.rangeL 0 8 rfl) rfl ?_
 have k146 := (hN135.blk.gn hS144.grw)
 have k147 := ((k139.grown0 hN135.grw).gn hS144.grw)
 refine Xh (vs := [.agg #[.int .i64 k, .int .i64 l.s, .int .i64 l.v, .int .i64 0, .int .i64 0, .slice (some ⟨B133, 0, none⟩) 4 4, .slice (some ⟨B114, 0, none⟩) 0 0, .int .i64 to]]) Pd (Xb rfl Xg) rfl (K4 (⟨⟨k, l, 0, 0, zeros4, [], to⟩, some ⟨B133, 0, none⟩, 4, some ⟨B114, 0, none⟩, 0⟩ : MTh) _ (Je Y5 k146) (Je Yb k147) (by first | omega | exact Nat.le_of_ble_eq_true rfl | (simp only [List.length_nil, List.length_cons, List.length_append, List.length_replicate]; omega)) (by first | omega | exact Nat.le_of_ble_eq_true rfl | (simp only [List.length_nil, List.length_cons, List.length_append, List.length_replicate]; omega))) ?_
 rintro _ w148 ⟨rfl, hg149⟩
 have hb150 := low0 hb145 hg149
 refine wpo_not (b' := !thingOk (⟨k, l, 0, 0, zeros4, [], to⟩ : Th)) rfl rfl rfl ?_
 refine wpo_nil ?_
 refine Ya rfl (Jt hlit) ?_
 refine Xk ?_
 refine Xn ?_
 refine Xa ?_
 have k151 := (hS144.blk.grown0 hg149)
 refine wpo_loadn (vs := [.int .i64 k, .int .i64 l.s, .int .i64 l.v, .int .i64 0, .int .i64 0, .slice (some ⟨B133, 0, none⟩) 4 4, .slice (some ⟨B114, 0, none⟩) 0 0, .int .i64 to]) Xx rfl rfl (k151.rangeL 0 8 rfl) rfl ?_
 have k152 := (((k137.grown0 hN135.grw).gn hS144.grw).grown0 hg149)
 refine wpo_storen (vs := [.int .i64 k, .int .i64 l.s, .int .i64 l.v, .int .i64 0, .int .i64 0, .slice (some ⟨B133, 0, none⟩) 4 4, .slice (some ⟨B114, 0, none⟩) 0 0, .int .i64 to]) (cs' := #[.int .i64 k, .int .i64 l.s, .int .i64 l.v, .int .i64 0, .int .i64 0, .slice (some ⟨B133, 0, none⟩) 4 4, .slice (some ⟨B114, 0, none⟩) 0 0, .int .i64 to]) Xx rfl rfl rfl (by simp [Value.oneCell']) k152 (Nat.le_of_ble_eq_true rfl) rfl ?_
 intro w153 hS154
 have hb155 := low1 hb150 hS154.grw (by omega)
 refine wpo_assign (v := .bool true) rfl rfl ?_
 refine wpo_nil ?_
 refine Xj ?_
 have k156 := ((k146.grown0 hg149).gn hS154.grw)
 have k157 := ((k147.grown0 hg149).gn hS154.grw)
 refine ⟨.tuple #[.agg #[.int .i64 k, .int .i64 l.s, .int .i64 l.v, .int .i64 0, .int .i64 0, .slice (some ⟨B133, 0, none⟩) 4 4, .slice (some ⟨B114, 0, none⟩) 0 0, .int .i64 to], .bool true], resCT rfl (resCell_mk (vs := [.int .i64 k, .int .i64 l.s, .int .i64 l.v, .int .i64 0, .int .i64 0, .slice (some ⟨B133, 0, none⟩) 4 4, .slice (some ⟨B114, 0, none⟩) 0 0, .int .i64 to]) Xx rfl rfl (hS154.blk.rangeL 0 8 rfl)) rfl, B133, 4, B114, 0, rfl, hlB133, (Own.rows Y5 k156 (by decide)), hlB114, (Own.rows Yb k157 (by decide)), (Nat.ne_of_gt lt_B114_B133), hb155⟩
theorem Wu [Comp] (k to : Int) (l : Lab) (hk : ((decide (k = 2)) || (decide (k = 3))) = true) (hok : newOk k l to = false) (w : World) : CallsR Try.prog 93 #[.int .i64 k, .agg #[.int .i64 l.s, .int .i64 l.v], .int .i64 to] w (fun v w' => v = .tuple #[.agg #[.int .i64 0, .int .i64 0, .int .i64 0, .int .i64 0, .int .i64 0, .slice none 0 0, .slice none 0 0, .int .i64 0], .bool false] ∧ w.grownBy w' none) := by
 refine Xp (n := 24) Try.func93 rfl Try.ntmps93 rfl ?_
 have hb0 := World.grownBy.refl w none
 have hlit : thingOk (⟨k, l, 0, 0, zeros4, [], to⟩ : Th) = false := (Vd hk).symm.trans hok
 refine Xa ?_
 refine wpo_box (v := .agg #[.int .i64 l.s, .int .i64 l.v]) (cs := #[.int .i64 l.s, .int .i64 l.v]) rfl rfl rfl ?_
 intro B101 w102 hN103
 have hlB101 := X1 hN103 hb0
 have hb104 := low0 hb0 hN103.grw
 refine wpo_alloc (cs := #[.int .i64 0, .int .i64 0, .int .i64 0, .int .i64 0, .int .i64 0, .slice none 0 0, .slice none 0 0, .int .i64 0]) Q6 rfl rfl ?_
 intro B105 w106 hN107
 have hlB105 := X1 hN107 hb104
 have lt_B101_B105 := Xo hN107 (hN103.blk).lt
 have hb108 := low0 hb104 hN107.grw
 refine wpo_assign (v := .bool false) rfl rfl ?_
 refine wpo_nil ?_
 refine Xa ?_
 refine wpo_move (v := .int .i64 k) rfl rfl ?_
 have k109 := (hN103.blk.grown0 hN107.grw)
 refine wpo_loadn (vs := [.int .i64 l.s, .int .i64 l.v]) Yr rfl rfl (k109.rangeL 0 2 rfl) rfl ?_
 refine wpo_buildSlice (ps := []) (e := 74) (cs := (([] : List Rt).flatMap Rt.cells).toArray) Xw (fun _ => by kernel_rfl) rfl ?_
 intro B110 w111 hN112
 have hlB110 := X1 hN112 hb108
 have lt_B101_B110 := Xo hN112 (k109).lt
 have lt_B105_B110 := Xo hN112 (hN107.blk).lt
 have hb113 := low0 hb108 hN112.grw
 refine wpo_buildSlice (ps := []) (e := 3) (cs := (([] : List Int).flatMap icell).toArray) Xw (fun _ => by kernel_rfl) rfl ?_
 intro B114 w115 hN116
 have hlB114 := X1 hN116 hb113
 have k117 := (k109.grown0 hN112.grw)
 have lt_B101_B114 := Xo hN116 (k117).lt
 have k118 := (hN107.blk.grown0 hN112.grw)
 have lt_B105_B114 := Xo hN116 (k118).lt
 have lt_B110_B114 := Xo hN116 (hN112.blk).lt
 have hb119 := low0 hb113 hN116.grw
 refine wpo_move (v := .int .i64 to) rfl rfl ?_
 refine wpo_build (ps := [(0, .int .i64 k), (1, .agg #[.int .i64 l.s, .int .i64 l.v]), (4, .slice (some ⟨B110, 0, none⟩) 0 0), (5, .slice (some ⟨B114, 0, none⟩) 0 0), (6, .int .i64 to)]) (v := .agg #[.int .i64 k, .int .i64 l.s, .int .i64 l.v, .int .i64 0, .int .i64 0, .slice (some ⟨B110, 0, none⟩) 0 0, .slice (some ⟨B114, 0, none⟩) 0 0, .int .i64 to]) (Xm rfl (Xm rfl (Xm rfl (Xm rfl (Xm rfl Xw))))) (fun _ => by kernel_rfl) rfl ?_
 refine wpo_alloc (cs := #[.int .i64 0, .int .i64 0, .int .i64 0, .int .i64 0, .int .i64 0, .slice none 0 0, .slice none 0 0, .int .i64 0]) Q6 rfl rfl ?_
 intro B120 w121 hN122
 have hlB120 := X1 hN122 hb119
 have k123 := (k117.grown0 hN116.grw)
 have lt_B101_B120 := Xo hN122 (k123).lt
 have k124 := (k118.grown0 hN116.grw)
 have lt_B105_B120 := Xo hN122 (k124).lt
 have k125 := (hN112.blk.grown0 hN116.grw)
 have lt_B110_B120 := Xo hN122 (k125).lt
 have lt_B114_B120 := Xo hN122 (hN116.blk).lt
 have hb126 := low0 hb119 hN122.grw
 refine wpo_storen (vs := [.int .i64 k, .int .i64 l.s, .int .i64 l.v, .int .i64 0, .int .i64 0, .slice (some ⟨B110, 0, none⟩) 0 0, .slice (some ⟨B114, 0, none⟩) 0 0, .int .i64 to]) (cs' := #[.int .i64 k, .int .i64 l.s, .int .i64 l.v, .int .i64 0, .int .i64 0, .slice (some ⟨B110, 0, none⟩) 0 0, .slice (some ⟨B114, 0, none⟩) 0 0, .int .i64 to]) Xx rfl rfl rfl (by simp [Value.oneCell']) hN122.blk (Nat.le_of_ble_eq_true rfl) rfl ?_
 intro w127 hS128
 have hb129 := low1 hb126 hS128.grw (by omega)
 refine wpo_nil ?_
 refine Xi ?_
 refine Xa ?_
 refine wpo_move (v := .int .i64 k) rfl rfl ?_
 refine Xh (vs := [.int .i64 k]) Hg (Xb rfl Xg) rfl (Kc k _) ?_
 rintro _ w130 ⟨rfl, hg131⟩
 have hb132 := low0 hb129 hg131
 refine wpo_nil ?_
 refine X8 rfl hk ?_
 refine Xl ?_
 refine wpo_make (g := Rt.cells) (z := Rt.zero) (c := 4) S5 rfl Y5 (by omega) rfl rfl (by omega) (by omega) rfl ?_
 intro B133 w134 hN135
 have hlB133 := X1 hN135 hb132
 have k136 := (((k123.grown0 hN122.grw).gn hS128.grw).grown0 hg131)
 have lt_B101_B133 := Xo hN135 (k136).lt
 have k137 := (((k124.grown0 hN122.grw).gn hS128.grw).grown0 hg131)
 have lt_B105_B133 := Xo hN135 (k137).lt
 have k138 := (((k125.grown0 hN122.grw).gn hS128.grw).grown0 hg131)
 have lt_B110_B133 := Xo hN135 (k138).lt
 have k139 := (((hN116.blk.grown0 hN122.grw).gn hS128.grw).grown0 hg131)
 have lt_B114_B133 := Xo hN135 (k139).lt
 have k140 := (hS128.blk.grown0 hg131)
 have lt_B120_B133 := Xo hN135 (k140).lt
 have hb141 := low0 hb132 hN135.grw
 refine wpo_fieldAddr (o' := 5) Y2 rfl rfl rfl ?_
 have k142 := (k140.grown0 hN135.grw)
 refine wpo_store1 (v := .slice (some ⟨B133, 0, none⟩) 4 4) (cs' := #[.int .i64 k, .int .i64 l.s, .int .i64 l.v, .int .i64 0, .int .i64 0, .slice (some ⟨B133, 0, none⟩) 4 4, .slice (some ⟨B114, 0, none⟩) 0 0, .int .i64 to]) Jc rfl rfl rfl k142 (Nat.le_of_ble_eq_true rfl) rfl ?_
 intro w143 hS144
 have hb145 := low1 hb141 hS144.grw (by omega)
 refine wpo_nil ?_
 refine Xn ?_
 refine Xi ?_
 refine Xa ?_
 refine wpo_loadn (vs := [.int .i64 k, .int .i64 l.s, .int .i64 l.v, .int .i64 0, .int .i64 0, .slice (some ⟨B133, 0, none⟩) 4 4, .slice (some ⟨B114, 0, none⟩) 0 0, .int .i64 to]) Xx rfl rfl (hS144.blk.rangeL 0 8 rfl) rfl ?_
 have k146 := (hN135.blk.gn hS144.grw)
 have k147 := ((k139.grown0 hN135.grw).gn hS144.grw)
 refine Xh (vs := [.agg #[.int .i64 k, .int .i64 l.s, .int .i64 l.v, .int .i64 0, .int .i64 0, .slice (some ⟨B133, 0, none⟩) 4 4, .slice (some ⟨B114, 0, none⟩) 0 0, .int .i64 to]]) Pd (Xb rfl Xg) rfl (K4 (⟨⟨k, l, 0, 0, zeros4, [], to⟩, some ⟨B133, 0, none⟩, 4, some ⟨B114, 0, none⟩, 0⟩ : MTh) _ (Je Y5 k146) (Je Yb k147) (by first | omega | exact Nat.le_of_ble_eq_true rfl | (simp only [List.length_nil, List.length_cons, List.length_append, List.length_replicate]; omega)) (by first | omega | exact Nat.le_of_ble_eq_true rfl | (simp only [List.length_nil, List.length_cons, List.length_append, List.length_replicate]; omega))) ?_
 rintro _ w148 ⟨rfl, hg149⟩
 have hb150 := low0 hb145 hg149
 refine wpo_not (b' := !thingOk (⟨k, l, 0, 0, zeros4, [], to⟩ : Th)) rfl rfl rfl ?_
 refine wpo_nil ?_
 refine X8 rfl (Qr hlit) ?_
 refine Xa ?_
 refine wpo_build (ps := []) (v := .agg #[.int .i64 0, .int .i64 0, .int .i64 0, .int .i64 0, .int .i64 0, .slice none 0 0, .slice none 0 0, .int .i64 0]) Xw (fun _ => by kernel_rfl) rfl ?_
 have k151 := (((k137.grown0 hN135.grw).gn hS144.grw).grown0 hg149)
 refine wpo_storen (vs := [.int .i64 0, .int .i64 0, .int .i64 0, .int .i64 0, .int .i64 0, .slice none 0 0, .slice none 0 0, .int .i64 0]) (cs' := #[.int .i64 0, .int .i64 0, .int .i64 0, .int .i64 0, .int .i64 0, .slice none 0 0, .slice none 0 0, .int .i64 0]) Xx rfl rfl rfl (by simp [Value.oneCell']) k151 (Nat.le_of_ble_eq_true rfl) rfl ?_
 intro w152 hS153
 have hb154 := low1 hb150 hS153.grw (by omega)
 refine wpo_assign (v := .bool false) rfl rfl ?_
 refine wpo_nil ?_
 refine Xj ?_
 refine X7 ?_
 refine ⟨.tuple #[.agg #[.int .i64 0, .int .i64 0, .int .i64 0, .int .i64 0, .int .i64 0, .slice none 0 0, .slice none 0 0, .int .i64 0], .bool false], resCT rfl (resCell_mk (vs := [.int .i64 0, .int .i64 0, .int .i64 0, .int .i64 0, .int .i64 0, .slice none 0 0, .slice none 0 0, .int .i64 0]) Xx rfl rfl (hS153.blk.rangeL 0 8 rfl)) rfl, rfl, hb154⟩
theorem Jp [Comp] (k to : Int) (l : Lab) (hk : ((decide (k = 2)) || (decide (k = 3))) = false) (hok : newOk k l to = true) (w : World) : CallsR Try.prog 93 #[.int .i64 k, .agg #[.int .i64 l.s, .int .i64 l.v], .int .i64 to] w (fun v w' => ∃ (S sc Q qc : Nat), v = .tuple #[.agg #[.int .i64 k, .int .i64 l.s, .int .i64 l.v, .int .i64 0, .int .i64 0, .slice (some ⟨S, 0, none⟩) 0 sc, .slice (some ⟨Q, 0, none⟩) 0 qc, .int .i64 to], .bool true] ∧ w.heap.size ≤ S ∧ Dw.Own w' S 74 5 sc 0 (([] : List Rt).flatMap Rt.cells) ∧ w.heap.size ≤ Q ∧ Dw.Own w' Q 3 1 qc 0 (([] : List Int).flatMap icell) ∧ S ≠ Q ∧ w.grownBy w' none) := by
 refine Xp (n := 24) Try.func93 rfl Try.ntmps93 rfl ?_
 have hb0 := World.grownBy.refl w none
 have hlit : thingOk (⟨k, l, 0, 0, [], [], to⟩ : Th) = true := (Jv hk).symm.trans hok
 have h101 : decide (k = 2) = false := J5 hk
 have h102 : decide (k = 3) = false := J6 hk
 refine Xa ?_
 refine wpo_box (v := .agg #[.int .i64 l.s, .int .i64 l.v]) (cs := #[.int .i64 l.s, .int .i64 l.v]) rfl rfl rfl ?_
 intro B103 w104 hN105
 have hlB103 := X1 hN105 hb0
 have hb106 := low0 hb0 hN105.grw
 refine wpo_alloc (cs := #[.int .i64 0, .int .i64 0, .int .i64 0, .int .i64 0, .int .i64 0, .slice none 0 0, .slice none 0 0, .int .i64 0]) Q6 rfl rfl ?_
 intro B107 w108 hN109
 have hlB107 := X1 hN109 hb106
 have lt_B103_B107 := Xo hN109 (hN105.blk).lt
 have hb110 := low0 hb106 hN109.grw
 refine wpo_assign (v := .bool false) rfl rfl ?_
 refine wpo_nil ?_
 refine Xa ?_
 refine wpo_move (v := .int .i64 k) rfl rfl ?_
 have k111 := (hN105.blk.grown0 hN109.grw)
 refine wpo_loadn (vs := [.int .i64 l.s, .int .i64 l.v]) Yr rfl rfl (k111.rangeL 0 2 rfl) rfl ?_
 refine wpo_buildSlice (ps := []) (e := 74) (cs := (([] : List Rt).flatMap Rt.cells).toArray) Xw (fun _ => by kernel_rfl) rfl ?_
 intro B112 w113 hN114
 have hlB112 := X1 hN114 hb110
 have lt_B103_B112 := Xo hN114 (k111).lt
 have lt_B107_B112 := Xo hN114 (hN109.blk).lt
 have hb115 := low0 hb110 hN114.grw
 refine wpo_buildSlice (ps := []) (e := 3) (cs := (([] : List Int).flatMap icell).toArray) Xw (fun _ => by kernel_rfl) rfl ?_
 intro B116 w117 hN118
 have hlB116 := X1 hN118 hb115
 have k119 := (k111.grown0 hN114.grw)
 have lt_B103_B116 := Xo hN118 (k119).lt
 have k120 := (hN109.blk.grown0 hN114.grw)
 have lt_B107_B116 := Xo hN118 (k120).lt
 have lt_B112_B116 := Xo hN118 (hN114.blk).lt
 have hb121 := low0 hb115 hN118.grw
 refine wpo_move (v := .int .i64 to) rfl rfl ?_
 refine wpo_build (ps := [(0, .int .i64 k), (1, .agg #[.int .i64 l.s, .int .i64 l.v]), (4, .slice (some ⟨B112, 0, none⟩) 0 0), (5, .slice (some ⟨B116, 0, none⟩) 0 0), (6, .int .i64 to)]) (v := .agg #[.int .i64 k, .int .i64 l.s, .int .i64 l.v, .int .i64 0, .int .i64 0, .slice (some ⟨B112, 0, none⟩) 0 0, .slice (some ⟨B116, 0, none⟩) 0 0, .int .i64 to]) (Xm rfl (Xm rfl (Xm rfl (Xm rfl (Xm rfl Xw))))) (fun _ => by kernel_rfl) rfl ?_
 refine wpo_alloc (cs := #[.int .i64 0, .int .i64 0, .int .i64 0, .int .i64 0, .int .i64 0, .slice none 0 0, .slice none 0 0, .int .i64 0]) Q6 rfl rfl ?_
 intro B122 w123 hN124
 have hlB122 := X1 hN124 hb121
 have k125 := (k119.grown0 hN118.grw)
 have lt_B103_B122 := Xo hN124 (k125).lt
 have k126 := (k120.grown0 hN118.grw)
 have lt_B107_B122 := Xo hN124 (k126).lt
 have k127 := (hN114.blk.grown0 hN118.grw)
 have lt_B112_B122 := Xo hN124 (k127).lt
 have lt_B116_B122 := Xo hN124 (hN118.blk).lt
 have hb128 := low0 hb121 hN124.grw
 refine wpo_storen (vs := [.int .i64 k, .int .i64 l.s, .int .i64 l.v, .int .i64 0, .int .i64 0, .slice (some ⟨B112, 0, none⟩) 0 0, .slice (some ⟨B116, 0, none⟩) 0 0, .int .i64 to]) (cs' := #[.int .i64 k, .int .i64 l.s, .int .i64 l.v, .int .i64 0, .int .i64 0, .slice (some ⟨B112, 0, none⟩) 0 0, .slice (some ⟨B116, 0, none⟩) 0 0, .int .i64 to]) Xx rfl rfl rfl (by simp [Value.oneCell']) hN124.blk (Nat.le_of_ble_eq_true rfl) rfl ?_
 intro w129 hS130
 have hb131 := low1 hb128 hS130.grw (by omega)
 refine wpo_nil ?_
 refine Xi ?_
 refine Xa ?_
 refine wpo_move (v := .int .i64 k) rfl rfl ?_
 refine Xh (vs := [.int .i64 k]) Hg (Xb rfl Xg) rfl (Kc k _) ?_
 rintro _ w132 ⟨rfl, hg133⟩
 have hb134 := low0 hb131 hg133
 refine wpo_nil ?_
 refine Ya rfl hk ?_
 refine Xk ?_
 refine Xn ?_
 refine Xi ?_
 refine Xa ?_
 have k135 := (hS130.blk.grown0 hg133)
 refine wpo_loadn (vs := [.int .i64 k, .int .i64 l.s, .int .i64 l.v, .int .i64 0, .int .i64 0, .slice (some ⟨B112, 0, none⟩) 0 0, .slice (some ⟨B116, 0, none⟩) 0 0, .int .i64 to]) Xx rfl rfl (k135.rangeL 0 8 rfl) rfl ?_
 have k136 := (((k127.grown0 hN124.grw).gn hS130.grw).grown0 hg133)
 have k137 := (((hN118.blk.grown0 hN124.grw).gn hS130.grw).grown0 hg133)
 refine Xh (vs := [.agg #[.int .i64 k, .int .i64 l.s, .int .i64 l.v, .int .i64 0, .int .i64 0, .slice (some ⟨B112, 0, none⟩) 0 0, .slice (some ⟨B116, 0, none⟩) 0 0, .int .i64 to]]) Pd (Xb rfl Xg) rfl (K4 (⟨⟨k, l, 0, 0, [], [], to⟩, some ⟨B112, 0, none⟩, 0, some ⟨B116, 0, none⟩, 0⟩ : MTh) _ (Je Y5 k136) (Je Yb k137) (by first | omega | exact Nat.le_of_ble_eq_true rfl | (simp only [List.length_nil, List.length_cons, List.length_append, List.length_replicate]; omega)) (by first | omega | exact Nat.le_of_ble_eq_true rfl | (simp only [List.length_nil, List.length_cons, List.length_append, List.length_replicate]; omega))) ?_
 rintro _ w138 ⟨rfl, hg139⟩
 have hb140 := low0 hb134 hg139
 refine wpo_not (b' := !thingOk (⟨k, l, 0, 0, [], [], to⟩ : Th)) rfl rfl rfl ?_
 refine wpo_nil ?_
 refine Ya rfl (Jt hlit) ?_
 refine Xk ?_
 refine Xn ?_
 refine Xa ?_
 have k141 := (k135.grown0 hg139)
 refine wpo_loadn (vs := [.int .i64 k, .int .i64 l.s, .int .i64 l.v, .int .i64 0, .int .i64 0, .slice (some ⟨B112, 0, none⟩) 0 0, .slice (some ⟨B116, 0, none⟩) 0 0, .int .i64 to]) Xx rfl rfl (k141.rangeL 0 8 rfl) rfl ?_
 have k142 := ((((k126.grown0 hN124.grw).gn hS130.grw).grown0 hg133).grown0 hg139)
 refine wpo_storen (vs := [.int .i64 k, .int .i64 l.s, .int .i64 l.v, .int .i64 0, .int .i64 0, .slice (some ⟨B112, 0, none⟩) 0 0, .slice (some ⟨B116, 0, none⟩) 0 0, .int .i64 to]) (cs' := #[.int .i64 k, .int .i64 l.s, .int .i64 l.v, .int .i64 0, .int .i64 0, .slice (some ⟨B112, 0, none⟩) 0 0, .slice (some ⟨B116, 0, none⟩) 0 0, .int .i64 to]) Xx rfl rfl rfl (by simp [Value.oneCell']) k142 (Nat.le_of_ble_eq_true rfl) rfl ?_
 intro w143 hS144
 have hb145 := low1 hb140 hS144.grw (by omega)
 refine wpo_assign (v := .bool true) rfl rfl ?_
 refine wpo_nil ?_
 refine Xj ?_
 have k146 := ((k136.grown0 hg139).gn hS144.grw)
 have k147 := ((k137.grown0 hg139).gn hS144.grw)
 refine ⟨.tuple #[.agg #[.int .i64 k, .int .i64 l.s, .int .i64 l.v, .int .i64 0, .int .i64 0, .slice (some ⟨B112, 0, none⟩) 0 0, .slice (some ⟨B116, 0, none⟩) 0 0, .int .i64 to], .bool true], resCT rfl (resCell_mk (vs := [.int .i64 k, .int .i64 l.s, .int .i64 l.v, .int .i64 0, .int .i64 0, .slice (some ⟨B112, 0, none⟩) 0 0, .slice (some ⟨B116, 0, none⟩) 0 0, .int .i64 to]) Xx rfl rfl (hS144.blk.rangeL 0 8 rfl)) rfl, B112, 0, B116, 0, rfl, hlB112, (Own.rows Y5 k146 (by decide)), hlB116, (Own.rows Yb k147 (by decide)), (Nat.ne_of_lt lt_B112_B116), hb145⟩
theorem Wt [Comp] (k to : Int) (l : Lab) (hk : ((decide (k = 2)) || (decide (k = 3))) = false) (hok : newOk k l to = false) (w : World) : CallsR Try.prog 93 #[.int .i64 k, .agg #[.int .i64 l.s, .int .i64 l.v], .int .i64 to] w (fun v w' => v = .tuple #[.agg #[.int .i64 0, .int .i64 0, .int .i64 0, .int .i64 0, .int .i64 0, .slice none 0 0, .slice none 0 0, .int .i64 0], .bool false] ∧ w.grownBy w' none) := by
 refine Xp (n := 24) Try.func93 rfl Try.ntmps93 rfl ?_
 have hb0 := World.grownBy.refl w none
 have hlit : thingOk (⟨k, l, 0, 0, [], [], to⟩ : Th) = false := (Jv hk).symm.trans hok
 have h101 : decide (k = 2) = false := J5 hk
 have h102 : decide (k = 3) = false := J6 hk
 refine Xa ?_
 refine wpo_box (v := .agg #[.int .i64 l.s, .int .i64 l.v]) (cs := #[.int .i64 l.s, .int .i64 l.v]) rfl rfl rfl ?_
 intro B103 w104 hN105
 have hlB103 := X1 hN105 hb0
 have hb106 := low0 hb0 hN105.grw
 refine wpo_alloc (cs := #[.int .i64 0, .int .i64 0, .int .i64 0, .int .i64 0, .int .i64 0, .slice none 0 0, .slice none 0 0, .int .i64 0]) Q6 rfl rfl ?_
 intro B107 w108 hN109
 have hlB107 := X1 hN109 hb106
 have lt_B103_B107 := Xo hN109 (hN105.blk).lt
 have hb110 := low0 hb106 hN109.grw
 refine wpo_assign (v := .bool false) rfl rfl ?_
 refine wpo_nil ?_
 refine Xa ?_
 refine wpo_move (v := .int .i64 k) rfl rfl ?_
 have k111 := (hN105.blk.grown0 hN109.grw)
 refine wpo_loadn (vs := [.int .i64 l.s, .int .i64 l.v]) Yr rfl rfl (k111.rangeL 0 2 rfl) rfl ?_
 refine wpo_buildSlice (ps := []) (e := 74) (cs := (([] : List Rt).flatMap Rt.cells).toArray) Xw (fun _ => by kernel_rfl) rfl ?_
 intro B112 w113 hN114
 have hlB112 := X1 hN114 hb110
 have lt_B103_B112 := Xo hN114 (k111).lt
 have lt_B107_B112 := Xo hN114 (hN109.blk).lt
 have hb115 := low0 hb110 hN114.grw
 refine wpo_buildSlice (ps := []) (e := 3) (cs := (([] : List Int).flatMap icell).toArray) Xw (fun _ => by kernel_rfl) rfl ?_
 intro B116 w117 hN118
 have hlB116 := X1 hN118 hb115
 have k119 := (k111.grown0 hN114.grw)
 have lt_B103_B116 := Xo hN118 (k119).lt
 have k120 := (hN109.blk.grown0 hN114.grw)
 have lt_B107_B116 := Xo hN118 (k120).lt
 have lt_B112_B116 := Xo hN118 (hN114.blk).lt
 have hb121 := low0 hb115 hN118.grw
 refine wpo_move (v := .int .i64 to) rfl rfl ?_
 refine wpo_build (ps := [(0, .int .i64 k), (1, .agg #[.int .i64 l.s, .int .i64 l.v]), (4, .slice (some ⟨B112, 0, none⟩) 0 0), (5, .slice (some ⟨B116, 0, none⟩) 0 0), (6, .int .i64 to)]) (v := .agg #[.int .i64 k, .int .i64 l.s, .int .i64 l.v, .int .i64 0, .int .i64 0, .slice (some ⟨B112, 0, none⟩) 0 0, .slice (some ⟨B116, 0, none⟩) 0 0, .int .i64 to]) (Xm rfl (Xm rfl (Xm rfl (Xm rfl (Xm rfl Xw))))) (fun _ => by kernel_rfl) rfl ?_
 refine wpo_alloc (cs := #[.int .i64 0, .int .i64 0, .int .i64 0, .int .i64 0, .int .i64 0, .slice none 0 0, .slice none 0 0, .int .i64 0]) Q6 rfl rfl ?_
 intro B122 w123 hN124
 have hlB122 := X1 hN124 hb121
 have k125 := (k119.grown0 hN118.grw)
 have lt_B103_B122 := Xo hN124 (k125).lt
 have k126 := (k120.grown0 hN118.grw)
 have lt_B107_B122 := Xo hN124 (k126).lt
 have k127 := (hN114.blk.grown0 hN118.grw)
 have lt_B112_B122 := Xo hN124 (k127).lt
 have lt_B116_B122 := Xo hN124 (hN118.blk).lt
 have hb128 := low0 hb121 hN124.grw
 refine wpo_storen (vs := [.int .i64 k, .int .i64 l.s, .int .i64 l.v, .int .i64 0, .int .i64 0, .slice (some ⟨B112, 0, none⟩) 0 0, .slice (some ⟨B116, 0, none⟩) 0 0, .int .i64 to]) (cs' := #[.int .i64 k, .int .i64 l.s, .int .i64 l.v, .int .i64 0, .int .i64 0, .slice (some ⟨B112, 0, none⟩) 0 0, .slice (some ⟨B116, 0, none⟩) 0 0, .int .i64 to]) Xx rfl rfl rfl (by simp [Value.oneCell']) hN124.blk (Nat.le_of_ble_eq_true rfl) rfl ?_
 intro w129 hS130
 have hb131 := low1 hb128 hS130.grw (by omega)
 refine wpo_nil ?_
 refine Xi ?_
 refine Xa ?_
 refine wpo_move (v := .int .i64 k) rfl rfl ?_
 refine Xh (vs := [.int .i64 k]) Hg (Xb rfl Xg) rfl (Kc k _) ?_
 rintro _ w132 ⟨rfl, hg133⟩
 have hb134 := low0 hb131 hg133
 refine wpo_nil ?_
 refine Ya rfl hk ?_
 refine Xk ?_
 refine Xn ?_
 refine Xi ?_
 refine Xa ?_
 have k135 := (hS130.blk.grown0 hg133)
 refine wpo_loadn (vs := [.int .i64 k, .int .i64 l.s, .int .i64 l.v, .int .i64 0, .int .i64 0, .slice (some ⟨B112, 0, none⟩) 0 0, .slice (some ⟨B116, 0, none⟩) 0 0, .int .i64 to]) Xx rfl rfl (k135.rangeL 0 8 rfl) rfl ?_
 have k136 := (((k127.grown0 hN124.grw).gn hS130.grw).grown0 hg133)
 have k137 := (((hN118.blk.grown0 hN124.grw).gn hS130.grw).grown0 hg133)
 refine Xh (vs := [.agg #[.int .i64 k, .int .i64 l.s, .int .i64 l.v, .int .i64 0, .int .i64 0, .slice (some ⟨B112, 0, none⟩) 0 0, .slice (some ⟨B116, 0, none⟩) 0 0, .int .i64 to]]) Pd (Xb rfl Xg) rfl (K4 (⟨⟨k, l, 0, 0, [], [], to⟩, some ⟨B112, 0, none⟩, 0, some ⟨B116, 0, none⟩, 0⟩ : MTh) _ (Je Y5 k136) (Je Yb k137) (by first | omega | exact Nat.le_of_ble_eq_true rfl | (simp only [List.length_nil, List.length_cons, List.length_append, List.length_replicate]; omega)) (by first | omega | exact Nat.le_of_ble_eq_true rfl | (simp only [List.length_nil, List.length_cons, List.length_append, List.length_replicate]; omega))) ?_
 rintro _ w138 ⟨rfl, hg139⟩
 have hb140 := low0 hb134 hg139
 refine wpo_not (b' := !thingOk (⟨k, l, 0, 0, [], [], to⟩ : Th)) rfl rfl rfl ?_
 refine wpo_nil ?_
 refine X8 rfl (Qr hlit) ?_
 refine Xa ?_
 refine wpo_build (ps := []) (v := .agg #[.int .i64 0, .int .i64 0, .int .i64 0, .int .i64 0, .int .i64 0, .slice none 0 0, .slice none 0 0, .int .i64 0]) Xw (fun _ => by kernel_rfl) rfl ?_
 have k141 := ((((k126.grown0 hN124.grw).gn hS130.grw).grown0 hg133).grown0 hg139)
 refine wpo_storen (vs := [.int .i64 0, .int .i64 0, .int .i64 0, .int .i64 0, .int .i64 0, .slice none 0 0, .slice none 0 0, .int .i64 0]) (cs' := #[.int .i64 0, .int .i64 0, .int .i64 0, .int .i64 0, .int .i64 0, .slice none 0 0, .slice none 0 0, .int .i64 0]) Xx rfl rfl rfl (by simp [Value.oneCell']) k141 (Nat.le_of_ble_eq_true rfl) rfl ?_
 intro w142 hS143
 have hb144 := low1 hb140 hS143.grw (by omega)
 refine wpo_assign (v := .bool false) rfl rfl ?_
 refine wpo_nil ?_
 refine Xj ?_
 refine X7 ?_
 refine ⟨.tuple #[.agg #[.int .i64 0, .int .i64 0, .int .i64 0, .int .i64 0, .int .i64 0, .slice none 0 0, .slice none 0 0, .int .i64 0], .bool false], resCT rfl (resCell_mk (vs := [.int .i64 0, .int .i64 0, .int .i64 0, .int .i64 0, .int .i64 0, .slice none 0 0, .slice none 0 0, .int .i64 0]) Xx rfl rfl (hS143.blk.rangeL 0 8 rfl)) rfl, rfl, hb144⟩
end Go.Dw.J
end
section
namespace Go.Dw.J
open Go.RowKit Go.Dw Go.Proofs
set_option linter.unusedSectionVars false
set_option maxRecDepth 100000
set_option maxHeartbeats 4000000
set_option linter.unusedSimpArgs false
set_option linter.unusedVariables false
theorem Hi [Comp] (p : Int) (hp : 0 ≤ p ∧ p ≤ 1000000000000) (lo R : Nat) (bs : List Int) (a : Option Addr) (c : Nat) (w : World) (hR : Blk w R 97 #[.slice a bs.length c, .int .i64 p]) (hlo : lo ≤ R) (hs : SlLt lo w a 1 (bs.map bcell)) (hb : ∀ b ∈ bs, 0 ≤ b ∧ b ≤ 255) (hn : bs.length ≤ 1048576) : CallsR Try.prog 36 #[.pointer (some ⟨R, 0, none⟩)] w (fun v w' => ∃ (l : Lab) (p' : Int), v = .agg #[.int .i64 l.s, .int .i64 l.v] ∧ -1 ≤ l.s ∧ l.s ≤ 4 ∧ 0 ≤ l.v ∧ l.v ≤ 3 ∧ p ≤ p' ∧ p' ≤ p + 4 ∧ Blk w' R 97 #[.slice a bs.length c, .int .i64 p'] ∧ w.grownBy w' (some R)) := by
 refine Xp (n := 25) Try.func36 rfl Try.ntmps36 rfl ?_
 have hb0 := World.grownBy.refl w (some R)
 have hRlt := hR.lt
 refine Xa ?_
 refine wpo_alloc (cs := #[.int .i64 0, .int .i64 0]) Td rfl rfl ?_
 intro B101 w102 hN103
 have hlB101 := X1 hN103 hb0
 have lt_R_B101 := Xo hN103 (hR).lt
 have hb104 := low0 hb0 hN103.grw
 refine wpo_nil ?_
 refine Xi ?_
 have k271 := (hR.grown0 hN103.grw)
 refine J4 (m := 12) [[], [], [1], [0, 1, 2], [0, 1, 2, 3], [], [], [1, 2, 6], [1, 2, 5, 6, 7], [1, 2, 5, 6, 7, 8], [0, 1, 2, 3, 4, 5, 6, 7, 8, 9], [], [0, 1, 2, 3, 4, 5, 6, 7, 8, 9, 10, 11]] (fun S F w' => ∃ (B231 : Nat) (k237 : Int) (x245 : Int) (B248 : Nat) (k254 : Int) (x262 : Int) (B265 : Nat), w102.grownBy w' (some R) ∧ F 0 = .pointer (some ⟨R, 0, none⟩) ∧ F 2 = .pointer (some ⟨B101, 0, none⟩) ∧ (S 2 = false → Blk w' R 97 #[.slice a bs.length c, .int .i64 p]) ∧ (S 0 = true → F 4 = .slice (some ⟨B231, 0, none⟩) 5 5 ∧ w.heap.size ≤ B231 ∧ Blk w' B231 3 (([0, 0, 1, 2, 3] : List Int).flatMap icell).toArray ∧ R < B231 ∧ B101 < B231 ∧ w102.heap.size ≤ B231) ∧ (S 1 = true → F 5 = .pointer (some ⟨R, 0, none⟩)) ∧ (S 2 = true → F 6 = .int .i64 k237 ∧ 0 ≤ k237 ∧ (k237 < 5 ∨ k237 = 0) ∧ (S 7 = false → Blk w' R 97 #[.slice a bs.length c, .int .i64 (p + 1)])) ∧ (S 3 = true → F 7 = .pointer (some ⟨B231, (k237).toNat * 1, none⟩)) ∧ (S 4 = true → F 8 = .int .i64 x245 ∧ ([0, 0, 1, 2, 3] : List Int)[(k237).toNat]? = some x245 ∧ (x245 = 0 ∨ x245 = 0 ∨ x245 = 1 ∨ x245 = 2 ∨ x245 = 3)) ∧ (S 5 = true → F 9 = .slice (some ⟨B248, 0, none⟩) 4 4 ∧ w.heap.size ≤ B248 ∧ Blk w' B248 3 (([0, 0, 3, 1] : List Int).flatMap icell).toArray ∧ R < B248 ∧ B101 < B248 ∧ w102.heap.size ≤ B248) ∧ (S 6 = true → F 10 = .pointer (some ⟨R, 0, none⟩)) ∧ (S 7 = true → F 11 = .int .i64 k254 ∧ 0 ≤ k254 ∧ (k254 < 4 ∨ k254 = 0) ∧ Blk w' R 97 #[.slice a bs.length c, .int .i64 (p + 1 + 1)]) ∧ (S 8 = true → F 12 = .pointer (some ⟨B248, (k254).toNat * 1, none⟩)) ∧ (S 9 = true → F 13 = .int .i64 x262 ∧ ([0, 0, 3, 1] : List Int)[(k254).toNat]? = some x262 ∧ (x262 = 0 ∨ x262 = 0 ∨ x262 = 3 ∨ x262 = 1)) ∧ (S 10 = true → F 14 = .agg #[.int .i64 x245, .int .i64 x262]) ∧ (S 11 = true → F 3 = .pointer (some ⟨B265, 0, none⟩) ∧ w.heap.size ≤ B265 ∧ Blk w' B265 25 #[.int .i64 0, .int .i64 0] ∧ R < B265 ∧ B101 < B265 ∧ w102.heap.size ≤ B265) ∧ (S 0 = true → S 5 = true → B231 ≠ B248) ∧ (S 0 = true → S 11 = true → B231 ≠ B265) ∧ (S 5 = true → S 11 = true → B248 ≠ B265)) Qq (by kernel_rfl) ⟨0, 0, 0, 0, 0, 0, 0, X5 _, rfl, rfl, fun _ => (k271).grown0 (X5 _), Yg, Yg, Yg, Yg, Yg, Yg, Yg, Yg, Yg, Yg, Yg, Yg, Yg, Yg, Yg⟩ ?_ ?_
 ·
  refine Xu (fun S F w272 hS hbef hcl hI => ?_) ?_
  ·
   obtain ⟨B231, k237, x245, B248, k254, x262, B265, hi273, e274, e275, c_old_R, c_0, c_1, c_2, c_3, c_4, c_5, c_6, c_7, c_8, c_9, c_10, c_11, pr_B231_B248, pr_B231_B265, pr_B248_B265⟩ := hI
   have hb276 := Xf hb104 hi273
   refine wpo_buildSlice (ps := [(0, .int .i64 0), (1, .int .i64 0), (2, .int .i64 1), (3, .int .i64 2), (4, .int .i64 3)]) (e := 3) (cs := (([0, 0, 1, 2, 3] : List Int).flatMap icell).toArray) (Xm rfl (Xm rfl (Xm rfl (Xm rfl (Xm rfl Xw))))) (fun _ => by kernel_rfl) rfl ?_
   intro B277 w278 hN279
   have hlB277 := X1 hN279 hb276
   have k280 := (hN103.blk.gn hi273)
   have lt_B101_B277 := Xo hN279 (k280).lt
   have hb281 := low0 hb276 hN279.grw
   exact wpo_nil ⟨B277, k237, x245, B248, k254, x262, B265, (low0 hi273 hN279.grw), e274, e275, fun h => (c_old_R h).grown0 hN279.grw, fun _ => ⟨rfl, hlB277, hN279.blk, (by omega), lt_B101_B277, (Nat.le_trans hi273.size hN279.ge)⟩, c_1, fun h => let ⟨y282, y283, y284, y285⟩ := c_2 h; ⟨y282, y283, y284, fun hn => (y285 hn).grown0 hN279.grw⟩, fun h => Xt 3 hS hcl rfl h, fun h => Xt 4 hS hcl rfl h, fun h => let ⟨y286, y287, y288, y289, y290, y291⟩ := c_5 h; ⟨y286, y287, (y288).grown0 hN279.grw, y289, y290, y291⟩, c_6, fun h => let ⟨y292, y293, y294, y295⟩ := c_7 h; ⟨y292, y293, y294, (y295).grown0 hN279.grw⟩, c_8, c_9, fun h => Xt 10 hS hcl rfl h, fun h => let ⟨y296, y297, y298, y299, y300, y301⟩ := c_11 h; ⟨y296, y297, (y298).grown0 hN279.grw, y299, y300, y301⟩, fun _ h => let ⟨y302, y303, y304, y305, y306, y307⟩ := c_5 h; Nat.ne_of_gt (Nat.lt_of_lt_of_le ((y304).lt) hN279.ge), fun _ h => let ⟨y308, y309, y310, y311, y312, y313⟩ := c_11 h; Nat.ne_of_gt (Nat.lt_of_lt_of_le ((y310).lt) hN279.ge), pr_B248_B265⟩
  refine Xu (fun S F w314 hS hbef hcl hI => ?_) ?_
  ·
   obtain ⟨B231, k237, x245, B248, k254, x262, B265, hi315, e316, e317, c_old_R, c_0, c_1, c_2, c_3, c_4, c_5, c_6, c_7, c_8, c_9, c_10, c_11, pr_B231_B248, pr_B231_B265, pr_B248_B265⟩ := hI
   have hb318 := Xf hb104 hi315
   refine wpo_move (v := .pointer (some ⟨R, 0, none⟩)) e316 rfl ?_
   exact wpo_nil ⟨B231, k237, x245, B248, k254, x262, B265, hi315, e316, e317, fun h => c_old_R h, c_0, fun _ => rfl, fun h => Xt 2 hS hcl rfl h, fun h => Xt 3 hS hcl rfl h, fun h => Xt 4 hS hcl rfl h, c_5, c_6, fun h => Xt 7 hS hcl rfl h, fun h => Xt 8 hS hcl rfl h, fun h => Xt 9 hS hcl rfl h, fun h => Xt 10 hS hcl rfl h, c_11, pr_B231_B248, pr_B231_B265, pr_B248_B265⟩
  refine Xu (fun S F w319 hS hbef hcl hI => ?_) ?_
  ·
   obtain ⟨B231, k237, x245, B248, k254, x262, B265, hi320, e321, e322, c_old_R, c_0, c_1, c_2, c_3, c_4, c_5, c_6, c_7, c_8, c_9, c_10, c_11, pr_B231_B248, pr_B231_B265, pr_B248_B265⟩ := hI
   have hb323 := Xf hb104 hi320
   obtain e324 := c_1 (Xr 1 hbef rfl)
   refine Xh (vs := [.pointer (some ⟨R, 0, none⟩), .int .i64 5]) Qb (Xb e324 (Xb rfl Xg)) rfl (Yn p 5 (by omega) _ R bs _ _ _ (c_old_R hS) (by omega) (SlLt.low1 hs hb323 hlo) (by first | exact hb | exact fun b h => hb b (List.mem_of_mem_take h)) (by first | omega | (rw [List.length_take]; omega))) ?_
   rintro _ w330 ⟨k325, rfl, hk326, hk327, kR328, hg329⟩
   have hb331 := Xf hb323 hg329
   exact wpo_nil ⟨B231, k325, x245, B248, k254, x262, B265, (Xf hi320 hg329), e321, e322, fun h => Q7 h, fun h => let ⟨y332, y333, y334, y335, y336, y337⟩ := c_0 h; ⟨y332, y333, (y334).gn hg329, y335, y336, y337⟩, c_1, fun _ => ⟨rfl, hk326, hk327, fun _ => kR328⟩, fun h => Xt 3 hS hcl rfl h, fun h => Xt 4 hS hcl rfl h, fun h => let ⟨y338, y339, y340, y341, y342, y343⟩ := c_5 h; ⟨y338, y339, (y340).gn hg329, y341, y342, y343⟩, c_6, fun h => Xt 7 hS hcl rfl h, fun h => Xt 8 hS hcl rfl h, fun h => Xt 9 hS hcl rfl h, fun h => Xt 10 hS hcl rfl h, fun h => let ⟨y344, y345, y346, y347, y348, y349⟩ := c_11 h; ⟨y344, y345, (y346).gn hg329, y347, y348, y349⟩, pr_B231_B248, pr_B231_B265, pr_B248_B265⟩
  refine Xu (fun S F w350 hS hbef hcl hI => ?_) ?_
  ·
   obtain ⟨B231, k237, x245, B248, k254, x262, B265, hi351, e352, e353, c_old_R, c_0, c_1, c_2, c_3, c_4, c_5, c_6, c_7, c_8, c_9, c_10, c_11, pr_B231_B248, pr_B231_B265, pr_B248_B265⟩ := hI
   have hb354 := Xf hb104 hi351
   obtain ⟨e355, hlB231, kb_B231, lt_R_B231, lt_B101_B231, hk_B231⟩ := c_0 (Xr 0 hbef rfl)
   obtain e356 := c_1 (Xr 1 hbef rfl)
   obtain ⟨e357, hk238, hk239, ks2_R⟩ := c_2 (Xr 2 hbef rfl)
   refine wpo_indexAddr (o' := (k237).toNat * 1) Km e355 e357 (by omega) (by omega) (by omega) rfl ?_
   exact wpo_nil ⟨B231, k237, x245, B248, k254, x262, B265, hi351, e352, e353, fun hn => Q7 ((Xr 2 hbef rfl).symm.trans hn), c_0, c_1, c_2, fun _ => rfl, fun h => Xt 4 hS hcl rfl h, c_5, c_6, c_7, c_8, c_9, fun h => Xt 10 hS hcl rfl h, c_11, pr_B231_B248, pr_B231_B265, pr_B248_B265⟩
  refine Xu (fun S F w358 hS hbef hcl hI => ?_) ?_
  ·
   obtain ⟨B231, k237, x245, B248, k254, x262, B265, hi359, e360, e361, c_old_R, c_0, c_1, c_2, c_3, c_4, c_5, c_6, c_7, c_8, c_9, c_10, c_11, pr_B231_B248, pr_B231_B265, pr_B248_B265⟩ := hI
   have hb362 := Xf hb104 hi359
   obtain ⟨e363, hlB231, kb_B231, lt_R_B231, lt_B101_B231, hk_B231⟩ := c_0 (Xr 0 hbef rfl)
   obtain e364 := c_1 (Xr 1 hbef rfl)
   obtain ⟨e365, hk238, hk239, ks2_R⟩ := c_2 (Xr 2 hbef rfl)
   obtain e366 := c_3 (Xr 3 hbef rfl)
   obtain ⟨x367, hx368⟩ := Qc (l := ([0, 0, 1, 2, 3] : List Int)) (i := (k237).toNat) (show (k237).toNat < 5 by omega)
   have hm369 := List.mem_of_getElem? hx368
   simp only [List.mem_cons, List.not_mem_nil, or_false] at hm369
   refine wpo_load1 (v := .int .i64 x367) X0 e366 ((Jl Yb kb_B231 hx368) 0 _ rfl) rfl ?_
   exact wpo_nil ⟨B231, k237, x367, B248, k254, x262, B265, hi359, e360, e361, fun hn => Q7 ((Xr 2 hbef rfl).symm.trans hn), c_0, c_1, c_2, c_3, fun _ => ⟨rfl, hx368, hm369⟩, c_5, c_6, c_7, c_8, c_9, fun h => Xt 10 hS hcl rfl h, c_11, pr_B231_B248, pr_B231_B265, pr_B248_B265⟩
  refine Xu (fun S F w370 hS hbef hcl hI => ?_) ?_
  ·
   obtain ⟨B231, k237, x245, B248, k254, x262, B265, hi371, e372, e373, c_old_R, c_0, c_1, c_2, c_3, c_4, c_5, c_6, c_7, c_8, c_9, c_10, c_11, pr_B231_B248, pr_B231_B265, pr_B248_B265⟩ := hI
   have hb374 := Xf hb104 hi371
   refine wpo_buildSlice (ps := [(0, .int .i64 0), (1, .int .i64 0), (2, .int .i64 3), (3, .int .i64 1)]) (e := 3) (cs := (([0, 0, 3, 1] : List Int).flatMap icell).toArray) (Xm rfl (Xm rfl (Xm rfl (Xm rfl Xw)))) (fun _ => by kernel_rfl) rfl ?_
   intro B375 w376 hN377
   have hlB375 := X1 hN377 hb374
   have k378 := (hN103.blk.gn hi371)
   have lt_B101_B375 := Xo hN377 (k378).lt
   have hb379 := low0 hb374 hN377.grw
   exact wpo_nil ⟨B231, k237, x245, B375, k254, x262, B265, (low0 hi371 hN377.grw), e372, e373, fun h => (c_old_R h).grown0 hN377.grw, fun h => let ⟨y380, y381, y382, y383, y384, y385⟩ := c_0 h; ⟨y380, y381, (y382).grown0 hN377.grw, y383, y384, y385⟩, c_1, fun h => let ⟨y386, y387, y388, y389⟩ := c_2 h; ⟨y386, y387, y388, fun hn => (y389 hn).grown0 hN377.grw⟩, c_3, c_4, fun _ => ⟨rfl, hlB375, hN377.blk, (by omega), lt_B101_B375, (Nat.le_trans hi371.size hN377.ge)⟩, c_6, fun h => let ⟨y390, y391, y392, y393⟩ := c_7 h; ⟨y390, y391, y392, (y393).grown0 hN377.grw⟩, fun h => Xt 8 hS hcl rfl h, fun h => Xt 9 hS hcl rfl h, fun h => Xt 10 hS hcl rfl h, fun h => let ⟨y394, y395, y396, y397, y398, y399⟩ := c_11 h; ⟨y394, y395, (y396).grown0 hN377.grw, y397, y398, y399⟩, fun h _ => let ⟨y400, y401, y402, y403, y404, y405⟩ := c_0 h; Nat.ne_of_lt (Nat.lt_of_lt_of_le ((y402).lt) hN377.ge), pr_B231_B265, fun _ h => let ⟨y406, y407, y408, y409, y410, y411⟩ := c_11 h; Nat.ne_of_gt (Nat.lt_of_lt_of_le ((y408).lt) hN377.ge)⟩
  refine Xu (fun S F w412 hS hbef hcl hI => ?_) ?_
  ·
   obtain ⟨B231, k237, x245, B248, k254, x262, B265, hi413, e414, e415, c_old_R, c_0, c_1, c_2, c_3, c_4, c_5, c_6, c_7, c_8, c_9, c_10, c_11, pr_B231_B248, pr_B231_B265, pr_B248_B265⟩ := hI
   have hb416 := Xf hb104 hi413
   refine wpo_move (v := .pointer (some ⟨R, 0, none⟩)) e414 rfl ?_
   exact wpo_nil ⟨B231, k237, x245, B248, k254, x262, B265, hi413, e414, e415, fun h => c_old_R h, c_0, c_1, c_2, c_3, c_4, c_5, fun _ => rfl, fun h => Xt 7 hS hcl rfl h, fun h => Xt 8 hS hcl rfl h, fun h => Xt 9 hS hcl rfl h, fun h => Xt 10 hS hcl rfl h, c_11, pr_B231_B248, pr_B231_B265, pr_B248_B265⟩
  refine Xu (fun S F w417 hS hbef hcl hI => ?_) ?_
  ·
   obtain ⟨B231, k237, x245, B248, k254, x262, B265, hi418, e419, e420, c_old_R, c_0, c_1, c_2, c_3, c_4, c_5, c_6, c_7, c_8, c_9, c_10, c_11, pr_B231_B248, pr_B231_B265, pr_B248_B265⟩ := hI
   have hb421 := Xf hb104 hi418
   obtain e422 := c_1 (Xr 1 hbef rfl)
   obtain ⟨e423, hk238, hk239, ks2_R⟩ := c_2 (Xr 2 hbef rfl)
   obtain e424 := c_6 (Xr 6 hbef rfl)
   refine Xh (vs := [.pointer (some ⟨R, 0, none⟩), .int .i64 4]) Qb (Xb e424 (Xb rfl Xg)) rfl (Yn (p + 1) 4 (by omega) _ R bs _ _ _ (ks2_R hS) (by omega) (SlLt.low1 hs hb421 hlo) (by first | exact hb | exact fun b h => hb b (List.mem_of_mem_take h)) (by first | omega | (rw [List.length_take]; omega))) ?_
   rintro _ w430 ⟨k425, rfl, hk426, hk427, kR428, hg429⟩
   have hb431 := Xf hb421 hg429
   exact wpo_nil ⟨B231, k237, x245, B248, k425, x262, B265, (Xf hi418 hg429), e419, e420, fun hn => Q7 ((Xr 2 hbef rfl).symm.trans hn), fun h => let ⟨y432, y433, y434, y435, y436, y437⟩ := c_0 h; ⟨y432, y433, (y434).gn hg429, y435, y436, y437⟩, c_1, fun h => let ⟨y438, y439, y440, y441⟩ := c_2 h; ⟨y438, y439, y440, fun h => Q7 h⟩, c_3, c_4, fun h => let ⟨y442, y443, y444, y445, y446, y447⟩ := c_5 h; ⟨y442, y443, (y444).gn hg429, y445, y446, y447⟩, c_6, fun _ => ⟨rfl, hk426, hk427, kR428⟩, fun h => Xt 8 hS hcl rfl h, fun h => Xt 9 hS hcl rfl h, fun h => Xt 10 hS hcl rfl h, fun h => let ⟨y448, y449, y450, y451, y452, y453⟩ := c_11 h; ⟨y448, y449, (y450).gn hg429, y451, y452, y453⟩, pr_B231_B248, pr_B231_B265, pr_B248_B265⟩
  refine Xu (fun S F w454 hS hbef hcl hI => ?_) ?_
  ·
   obtain ⟨B231, k237, x245, B248, k254, x262, B265, hi455, e456, e457, c_old_R, c_0, c_1, c_2, c_3, c_4, c_5, c_6, c_7, c_8, c_9, c_10, c_11, pr_B231_B248, pr_B231_B265, pr_B248_B265⟩ := hI
   have hb458 := Xf hb104 hi455
   obtain e459 := c_1 (Xr 1 hbef rfl)
   obtain ⟨e460, hk238, hk239, ks2_R⟩ := c_2 (Xr 2 hbef rfl)
   obtain ⟨e461, hlB248, kb_B248, lt_R_B248, lt_B101_B248, hk_B248⟩ := c_5 (Xr 5 hbef rfl)
   obtain e462 := c_6 (Xr 6 hbef rfl)
   obtain ⟨e463, hk255, hk256, ks7_R⟩ := c_7 (Xr 7 hbef rfl)
   refine wpo_indexAddr (o' := (k254).toNat * 1) Km e461 e463 (by omega) (by omega) (by omega) rfl ?_
   exact wpo_nil ⟨B231, k237, x245, B248, k254, x262, B265, hi455, e456, e457, fun hn => Q7 ((Xr 2 hbef rfl).symm.trans hn), c_0, c_1, c_2, c_3, c_4, c_5, c_6, c_7, fun _ => rfl, fun h => Xt 9 hS hcl rfl h, fun h => Xt 10 hS hcl rfl h, c_11, pr_B231_B248, pr_B231_B265, pr_B248_B265⟩
  refine Xu (fun S F w464 hS hbef hcl hI => ?_) ?_
  ·
   obtain ⟨B231, k237, x245, B248, k254, x262, B265, hi465, e466, e467, c_old_R, c_0, c_1, c_2, c_3, c_4, c_5, c_6, c_7, c_8, c_9, c_10, c_11, pr_B231_B248, pr_B231_B265, pr_B248_B265⟩ := hI
   have hb468 := Xf hb104 hi465
   obtain e469 := c_1 (Xr 1 hbef rfl)
   obtain ⟨e470, hk238, hk239, ks2_R⟩ := c_2 (Xr 2 hbef rfl)
   obtain ⟨e471, hlB248, kb_B248, lt_R_B248, lt_B101_B248, hk_B248⟩ := c_5 (Xr 5 hbef rfl)
   obtain e472 := c_6 (Xr 6 hbef rfl)
   obtain ⟨e473, hk255, hk256, ks7_R⟩ := c_7 (Xr 7 hbef rfl)
   obtain e474 := c_8 (Xr 8 hbef rfl)
   obtain ⟨x475, hx476⟩ := Qc (l := ([0, 0, 3, 1] : List Int)) (i := (k254).toNat) (show (k254).toNat < 4 by omega)
   have hm477 := List.mem_of_getElem? hx476
   simp only [List.mem_cons, List.not_mem_nil, or_false] at hm477
   refine wpo_load1 (v := .int .i64 x475) X0 e474 ((Jl Yb kb_B248 hx476) 0 _ rfl) rfl ?_
   exact wpo_nil ⟨B231, k237, x245, B248, k254, x475, B265, hi465, e466, e467, fun hn => Q7 ((Xr 2 hbef rfl).symm.trans hn), c_0, c_1, c_2, c_3, c_4, c_5, c_6, c_7, c_8, fun _ => ⟨rfl, hx476, hm477⟩, fun h => Xt 10 hS hcl rfl h, c_11, pr_B231_B248, pr_B231_B265, pr_B248_B265⟩
  refine Xu (fun S F w478 hS hbef hcl hI => ?_) ?_
  ·
   obtain ⟨B231, k237, x245, B248, k254, x262, B265, hi479, e480, e481, c_old_R, c_0, c_1, c_2, c_3, c_4, c_5, c_6, c_7, c_8, c_9, c_10, c_11, pr_B231_B248, pr_B231_B265, pr_B248_B265⟩ := hI
   have hb482 := Xf hb104 hi479
   obtain ⟨e483, hlB231, kb_B231, lt_R_B231, lt_B101_B231, hk_B231⟩ := c_0 (Xr 0 hbef rfl)
   obtain e484 := c_1 (Xr 1 hbef rfl)
   obtain ⟨e485, hk238, hk239, ks2_R⟩ := c_2 (Xr 2 hbef rfl)
   obtain e486 := c_3 (Xr 3 hbef rfl)
   obtain ⟨e487, hx246, hm247⟩ := c_4 (Xr 4 hbef rfl)
   obtain ⟨e488, hlB248, kb_B248, lt_R_B248, lt_B101_B248, hk_B248⟩ := c_5 (Xr 5 hbef rfl)
   obtain e489 := c_6 (Xr 6 hbef rfl)
   obtain ⟨e490, hk255, hk256, ks7_R⟩ := c_7 (Xr 7 hbef rfl)
   obtain e491 := c_8 (Xr 8 hbef rfl)
   obtain ⟨e492, hx263, hm264⟩ := c_9 (Xr 9 hbef rfl)
   have ne_B231_B248 := pr_B231_B248 (Xr 0 hbef rfl) (Xr 5 hbef rfl)
   refine wpo_build (ps := [(0, .int .i64 x245), (1, .int .i64 x262)]) (v := .agg #[.int .i64 x245, .int .i64 x262]) (Xm e487 (Xm e492 Xw)) (fun _ => by kernel_rfl) rfl ?_
   exact wpo_nil ⟨B231, k237, x245, B248, k254, x262, B265, hi479, e480, e481, fun hn => Q7 ((Xr 2 hbef rfl).symm.trans hn), c_0, c_1, c_2, c_3, c_4, c_5, c_6, c_7, c_8, c_9, fun _ => rfl, c_11, pr_B231_B248, pr_B231_B265, pr_B248_B265⟩
  refine Xu (fun S F w493 hS hbef hcl hI => ?_) ?_
  ·
   obtain ⟨B231, k237, x245, B248, k254, x262, B265, hi494, e495, e496, c_old_R, c_0, c_1, c_2, c_3, c_4, c_5, c_6, c_7, c_8, c_9, c_10, c_11, pr_B231_B248, pr_B231_B265, pr_B248_B265⟩ := hI
   have hb497 := Xf hb104 hi494
   refine wpo_alloc (cs := #[.int .i64 0, .int .i64 0]) Td rfl rfl ?_
   intro B498 w499 hN500
   have hlB498 := X1 hN500 hb497
   have k501 := (hN103.blk.gn hi494)
   have lt_B101_B498 := Xo hN500 (k501).lt
   have hb502 := low0 hb497 hN500.grw
   exact wpo_nil ⟨B231, k237, x245, B248, k254, x262, B498, (low0 hi494 hN500.grw), e495, e496, fun h => (c_old_R h).grown0 hN500.grw, fun h => let ⟨y503, y504, y505, y506, y507, y508⟩ := c_0 h; ⟨y503, y504, (y505).grown0 hN500.grw, y506, y507, y508⟩, c_1, fun h => let ⟨y509, y510, y511, y512⟩ := c_2 h; ⟨y509, y510, y511, fun hn => (y512 hn).grown0 hN500.grw⟩, c_3, c_4, fun h => let ⟨y513, y514, y515, y516, y517, y518⟩ := c_5 h; ⟨y513, y514, (y515).grown0 hN500.grw, y516, y517, y518⟩, c_6, fun h => let ⟨y519, y520, y521, y522⟩ := c_7 h; ⟨y519, y520, y521, (y522).grown0 hN500.grw⟩, c_8, c_9, c_10, fun _ => ⟨rfl, hlB498, hN500.blk, (by omega), lt_B101_B498, (Nat.le_trans hi494.size hN500.ge)⟩, pr_B231_B248, fun h _ => let ⟨y523, y524, y525, y526, y527, y528⟩ := c_0 h; Nat.ne_of_lt (Nat.lt_of_lt_of_le ((y525).lt) hN500.ge), fun h _ => let ⟨y529, y530, y531, y532, y533, y534⟩ := c_5 h; Nat.ne_of_lt (Nat.lt_of_lt_of_le ((y531).lt) hN500.ge)⟩
  exact Kj
 ·
  intro S F w535 hall hI
  obtain ⟨B231, k237, x245, B248, k254, x262, B265, hi536, e537, e538, c_old_R, c_0, c_1, c_2, c_3, c_4, c_5, c_6, c_7, c_8, c_9, c_10, c_11, pr_B231_B248, pr_B231_B265, pr_B248_B265⟩ := hI
  have hb539 := Xf hb104 hi536
  obtain ⟨e540, hlB231, kb_B231, lt_R_B231, lt_B101_B231, hk_B231⟩ := c_0 (hall 0 (by decide))
  obtain e541 := c_1 (hall 1 (by decide))
  obtain ⟨e542, hk238, hk239, ks2_R⟩ := c_2 (hall 2 (by decide))
  obtain e543 := c_3 (hall 3 (by decide))
  obtain ⟨e544, hx246, hm247⟩ := c_4 (hall 4 (by decide))
  obtain ⟨e545, hlB248, kb_B248, lt_R_B248, lt_B101_B248, hk_B248⟩ := c_5 (hall 5 (by decide))
  obtain e546 := c_6 (hall 6 (by decide))
  obtain ⟨e547, hk255, hk256, ks7_R⟩ := c_7 (hall 7 (by decide))
  obtain e548 := c_8 (hall 8 (by decide))
  obtain ⟨e549, hx263, hm264⟩ := c_9 (hall 9 (by decide))
  obtain e550 := c_10 (hall 10 (by decide))
  obtain ⟨e551, hlB265, kb_B265, lt_R_B265, lt_B101_B265, hk_B265⟩ := c_11 (hall 11 (by decide))
  have ne_B231_B248 := pr_B231_B248 (hall 0 (by decide)) (hall 5 (by decide))
  have ne_B231_B265 := pr_B231_B265 (hall 0 (by decide)) (hall 11 (by decide))
  have ne_B248_B265 := pr_B248_B265 (hall 5 (by decide)) (hall 11 (by decide))
  refine wpo_storen (vs := [.int .i64 x245, .int .i64 x262]) (cs' := #[.int .i64 x245, .int .i64 x262]) Yr e551 e550 rfl (by simp [Value.oneCell']) kb_B265 (Nat.le_of_ble_eq_true rfl) rfl ?_
  intro w552 hS553
  have hb554 := low1 hb539 hS553.grw (by omega)
  refine wpo_nil ?_
  refine Xn ?_
  refine Xi ?_
  refine Xa ?_
  refine wpo_move (v := .pointer (some ⟨R, 0, none⟩)) e537 rfl ?_
  have k555 := (ks7_R.gn hS553.grw)
  refine Xh (vs := [.pointer (some ⟨R, 0, none⟩), .int .i64 60]) Qb (Xb rfl (Xb rfl Xg)) rfl (Yn (p + 1 + 1) 60 (by omega) _ R bs _ _ _ k555 (by omega) (SlLt.low1 hs hb554 hlo) (by first | exact hb | exact fun b h => hb b (List.mem_of_mem_take h)) (by first | omega | (rw [List.length_take]; omega))) ?_
  rintro _ w561 ⟨k556, rfl, hk557, hk558, kR559, hg560⟩
  have hb562 := Xf hb554 hg560
  refine wpo_eql (q := decide (k556 = 0)) rfl rfl rfl rfl ?_
  refine wpo_nil ?_
  refine Xq rfl (fun h563 => ?_) (fun h563 => ?_)
  ·
   have h564 := of_decide_eq_true h563
   refine Xl ?_
   refine wpo_buildSlice (ps := [(0, .int .i64 (-1)), (1, .int .i64 4)]) (e := 3) (cs := (([(-1), 4] : List Int).flatMap icell).toArray) (Xm rfl (Xm rfl Xw)) (fun _ => by kernel_rfl) rfl ?_
   intro B565 w566 hN567
   have hlB565 := X1 hN567 hb562
   have k568 := (((hN103.blk.gn hi536).gn hS553.grw).gn hg560)
   have lt_B101_B565 := Xo hN567 (k568).lt
   have k569 := ((kb_B231.gn hS553.grw).gn hg560)
   have lt_B231_B565 := Xo hN567 (k569).lt
   have k570 := ((kb_B248.gn hS553.grw).gn hg560)
   have lt_B248_B565 := Xo hN567 (k570).lt
   have lt_R_B565 := Xo hN567 (kR559).lt
   have k571 := (hS553.blk.gn hg560)
   have lt_B265_B565 := Xo hN567 (k571).lt
   have hb572 := low0 hb562 hN567.grw
   refine wpo_move (v := .pointer (some ⟨R, 0, none⟩)) e537 rfl ?_
   have k573 := (kR559.grown0 hN567.grw)
   refine Xh (vs := [.pointer (some ⟨R, 0, none⟩), .int .i64 2]) Qb (Xb rfl (Xb rfl Xg)) rfl (Yn (p + 1 + 1 + 1) 2 (by omega) _ R bs _ _ _ k573 (by omega) (SlLt.low1 hs hb572 hlo) (by first | exact hb | exact fun b h => hb b (List.mem_of_mem_take h)) (by first | omega | (rw [List.length_take]; omega))) ?_
   rintro _ w579 ⟨k574, rfl, hk575, hk576, kR577, hg578⟩
   have hb580 := Xf hb572 hg578
   refine wpo_indexAddr (o' := (k574).toNat * 1) Km rfl rfl (by omega) (by omega) (by omega) rfl ?_
   have k581 := (hN567.blk.gn hg578)
   obtain ⟨x582, hx583⟩ := Qc (l := ([(-1), 4] : List Int)) (i := (k574).toNat) (show (k574).toNat < 2 by omega)
   have hm584 := List.mem_of_getElem? hx583
   simp only [List.mem_cons, List.not_mem_nil, or_false] at hm584
   refine wpo_load1 (v := .int .i64 x582) X0 rfl ((Jl Yb k581 hx583) 0 _ rfl) rfl ?_
   refine wpo_fieldAddr (o' := 0) Vm e551 rfl rfl ?_
   have k585 := ((k571.grown0 hN567.grw).gn hg578)
   refine wpo_store1 (v := .int .i64 x582) (cs' := #[.int .i64 x582, .int .i64 x262]) X0 rfl rfl rfl k585 (Nat.le_of_ble_eq_true rfl) rfl ?_
   intro w586 hS587
   have hb588 := low1 hb580 hS587.grw (by omega)
   refine wpo_nil ?_
   refine Xn ?_
   refine Xa ?_
   refine wpo_loadn (vs := [.int .i64 x582, .int .i64 x262]) Yr e551 rfl (hS587.blk.rangeL 0 2 rfl) rfl ?_
   have k589 := (((k568.grown0 hN567.grw).gn hg578).gn hS587.grw)
   refine wpo_storen (vs := [.int .i64 x582, .int .i64 x262]) (cs' := #[.int .i64 x582, .int .i64 x262]) Yr e538 rfl rfl (by simp [Value.oneCell']) k589 (Nat.le_of_ble_eq_true rfl) rfl ?_
   intro w590 hS591
   have hb592 := low1 hb588 hS591.grw (by omega)
   refine wpo_nil ?_
   refine Xj ?_
   have k593 := ((kR577.gn hS587.grw).gn hS591.grw)
   refine ⟨.agg #[.int .i64 x582, .int .i64 x262], resC rfl (resCell_mk (vs := [.int .i64 x582, .int .i64 x262]) Yr e538 rfl (hS591.blk.rangeL 0 2 rfl)), ⟨x582, x262⟩, (p + 1 + 1 + 1 + 1), rfl, show (-1 : Int) ≤ x582 by omega, show x582 ≤ (4 : Int) by omega, show (0 : Int) ≤ x262 by omega, show x262 ≤ (3 : Int) by omega, by omega, by omega, k593, hb592⟩
  ·
   have h594 := of_decide_eq_false h563
   refine Xk ?_
   refine Xn ?_
   refine Xa ?_
   have k595 := (hS553.blk.gn hg560)
   refine wpo_loadn (vs := [.int .i64 x245, .int .i64 x262]) Yr e551 rfl (k595.rangeL 0 2 rfl) rfl ?_
   have k596 := (((hN103.blk.gn hi536).gn hS553.grw).gn hg560)
   refine wpo_storen (vs := [.int .i64 x245, .int .i64 x262]) (cs' := #[.int .i64 x245, .int .i64 x262]) Yr e538 rfl rfl (by simp [Value.oneCell']) k596 (Nat.le_of_ble_eq_true rfl) rfl ?_
   intro w597 hS598
   have hb599 := low1 hb562 hS598.grw (by omega)
   refine wpo_nil ?_
   refine Xj ?_
   have k600 := (kR559.gn hS598.grw)
   refine ⟨.agg #[.int .i64 x245, .int .i64 x262], resC rfl (resCell_mk (vs := [.int .i64 x245, .int .i64 x262]) Yr e538 rfl (hS598.blk.rangeL 0 2 rfl)), ⟨x245, x262⟩, (p + 1 + 1 + 1), rfl, show (-1 : Int) ≤ x245 by omega, show x245 ≤ (4 : Int) by omega, show (0 : Int) ≤ x262 by omega, show x262 ≤ (3 : Int) by omega, by omega, by omega, k600, hb599⟩
theorem Tu [Comp] (m p : MTh) (w : World) (ha : ThAt w m) (hb : ThAt w p) (hla : m.t.slots.length ≤ 1048576 ∧ m.t.queue.length ≤ 1048576) (hlb : p.t.slots.length ≤ 1048576 ∧ p.t.queue.length ≤ 1048576) : CallsR Try.prog 19 #[.agg #[.int .i64 m.t.kind, .int .i64 m.t.lab.s, .int .i64 m.t.lab.v, .int .i64 m.t.ve, .int .i64 m.t.num, .slice m.sa m.t.slots.length m.sc, .slice m.qa m.t.queue.length m.qc, .int .i64 m.t.to], .agg #[.int .i64 p.t.kind, .int .i64 p.t.lab.s, .int .i64 p.t.lab.v, .int .i64 p.t.ve, .int .i64 p.t.num, .slice p.sa p.t.slots.length p.sc, .slice p.qa p.t.queue.length p.qc, .int .i64 p.t.to]] w (fun v w' => v = .bool (decide (m.t = p.t)) ∧ w.grownBy w' none) := by
 refine Xp (n := 94) Try.func19 rfl Try.ntmps19 rfl ?_
 have hb0 := World.grownBy.refl w none
 refine Xa ?_
 refine wpo_box (v := .agg #[.int .i64 m.t.kind, .int .i64 m.t.lab.s, .int .i64 m.t.lab.v, .int .i64 m.t.ve, .int .i64 m.t.num, .slice m.sa m.t.slots.length m.sc, .slice m.qa m.t.queue.length m.qc, .int .i64 m.t.to]) (cs := #[.int .i64 m.t.kind, .int .i64 m.t.lab.s, .int .i64 m.t.lab.v, .int .i64 m.t.ve, .int .i64 m.t.num, .slice m.sa m.t.slots.length m.sc, .slice m.qa m.t.queue.length m.qc, .int .i64 m.t.to]) rfl rfl rfl ?_
 intro B101 w102 hN103
 have hlB101 := X1 hN103 hb0
 have hb104 := low0 hb0 hN103.grw
 refine wpo_box (v := .agg #[.int .i64 p.t.kind, .int .i64 p.t.lab.s, .int .i64 p.t.lab.v, .int .i64 p.t.ve, .int .i64 p.t.num, .slice p.sa p.t.slots.length p.sc, .slice p.qa p.t.queue.length p.qc, .int .i64 p.t.to]) (cs := #[.int .i64 p.t.kind, .int .i64 p.t.lab.s, .int .i64 p.t.lab.v, .int .i64 p.t.ve, .int .i64 p.t.num, .slice p.sa p.t.slots.length p.sc, .slice p.qa p.t.queue.length p.qc, .int .i64 p.t.to]) rfl rfl rfl ?_
 intro B105 w106 hN107
 have hlB105 := X1 hN107 hb104
 have lt_B101_B105 := Xo hN107 (hN103.blk).lt
 have hb108 := low0 hb104 hN107.grw
 refine wpo_assign (v := .bool false) rfl rfl ?_
 refine wpo_nil ?_
 refine Xi ?_
 refine Xs (fun f' w' => (f' 2 = .pointer (some ⟨B101, 0, none⟩) ∧ f' 3 = .pointer (some ⟨B105, 0, none⟩) ∧ f' 4 = .bool false ∧ f' 57 = .bool (((((((!(decide (m.t.kind = p.t.kind))) || (!(decide (m.t.lab = p.t.lab)))) || (!(decide (m.t.ve = p.t.ve)))) || (!(decide (m.t.num = p.t.num)))) || (!(decide (m.t.to = p.t.to)))) || (!(decide ((m.t.slots.length : Int) = (p.t.slots.length : Int))))) || (!(decide ((m.t.queue.length : Int) = (p.t.queue.length : Int)))))) ∧ w106 = w') ?_ ?_
 ·
  refine wpo_fieldAddr (o' := 0) X9 rfl rfl rfl ?_
  have k111 := (hN103.blk.grown0 hN107.grw)
  refine wpo_load1 (v := .int .i64 m.t.kind) X0 rfl (k111.cell rfl) rfl ?_
  refine wpo_fieldAddr (o' := 0) X9 rfl rfl rfl ?_
  refine wpo_load1 (v := .int .i64 p.t.kind) X0 rfl (hN107.blk.cell rfl) rfl ?_
  refine wpo_neq (q := !(decide (m.t.kind = p.t.kind))) rfl rfl rfl rfl ?_
  refine wpo_move (v := .bool (!(decide (m.t.kind = p.t.kind)))) rfl rfl ?_
  rcases Xy (!(decide (m.t.kind = p.t.kind))) with h112 | h112
  ·
   have h113 := Q3 h112
   have h114 := of_decide_eq_false h113
   iterate 5 refine Xe rfl rfl rfl h112 rfl ?_
   refine wpo_pickt (v := .bool true) rfl h112 rfl rfl ?_
   refine wpo_move (v := .bool true) rfl rfl ?_
   iterate 5 refine Xe rfl rfl rfl rfl rfl ?_
   refine wpo_pickt (v := .bool true) rfl rfl rfl rfl ?_
   refine wpo_move (v := .bool true) rfl rfl ?_
   iterate 5 refine Xe rfl rfl rfl rfl rfl ?_
   refine wpo_pickt (v := .bool true) rfl rfl rfl rfl ?_
   refine wpo_move (v := .bool true) rfl rfl ?_
   iterate 5 refine Xe rfl rfl rfl rfl rfl ?_
   refine wpo_pickt (v := .bool true) rfl rfl rfl rfl ?_
   refine wpo_move (v := .bool true) rfl rfl ?_
   iterate 7 refine Xe rfl rfl rfl rfl rfl ?_
   refine wpo_pickt (v := .bool true) rfl rfl rfl rfl ?_
   refine wpo_move (v := .bool true) rfl rfl ?_
   iterate 7 refine Xe rfl rfl rfl rfl rfl ?_
   refine wpo_pickt (v := .bool true) rfl rfl rfl rfl ?_
   exact wpo_nil ⟨⟨rfl, rfl, rfl, (congrArg Value.bool (by first | (simp only [h112, h113, b0, b1, b2, b3, b4, b5, b6, b7, b8, b9]; done) | simp [h112, h113]))⟩, rfl⟩
  ·
   have h115 := Y9 h112
   have h116 := of_decide_eq_true h115
   refine Xc rfl rfl rfl h112 ?_
   refine wpo_fieldAddr (o' := 1) J7 rfl rfl rfl ?_
   refine Xc rfl rfl rfl h112 ?_
   refine wpo_loadn (vs := [.int .i64 m.t.lab.s, .int .i64 m.t.lab.v]) Yr rfl rfl (k111.rangeL 1 2 rfl) rfl ?_
   refine Xc rfl rfl rfl h112 ?_
   refine wpo_fieldAddr (o' := 1) J7 rfl rfl rfl ?_
   refine Xc rfl rfl rfl h112 ?_
   refine wpo_loadn (vs := [.int .i64 p.t.lab.s, .int .i64 p.t.lab.v]) Yr rfl rfl (hN107.blk.rangeL 1 2 rfl) rfl ?_
   refine Xc rfl rfl rfl h112 ?_
   refine wpo_eqs (q := !(decide (m.t.lab = p.t.lab))) rfl rfl rfl rfl (fun _ => Fg _ _ m.t.lab p.t.lab _) (fun _ => Fh m.t.lab p.t.lab _) rfl rfl ?_
   refine wpo_pickf (v := .bool (!(decide (m.t.lab = p.t.lab)))) rfl h112 rfl rfl ?_
   refine wpo_move (v := .bool (!(decide (m.t.lab = p.t.lab)))) rfl rfl ?_
   rcases Xy (!(decide (m.t.lab = p.t.lab))) with h117 | h117
   ·
    have h118 := Q3 h117
    have h119 := of_decide_eq_false h118
    iterate 5 refine Xe rfl rfl rfl h117 rfl ?_
    refine wpo_pickt (v := .bool true) rfl h117 rfl rfl ?_
    refine wpo_move (v := .bool true) rfl rfl ?_
    iterate 5 refine Xe rfl rfl rfl rfl rfl ?_
    refine wpo_pickt (v := .bool true) rfl rfl rfl rfl ?_
    refine wpo_move (v := .bool true) rfl rfl ?_
    iterate 5 refine Xe rfl rfl rfl rfl rfl ?_
    refine wpo_pickt (v := .bool true) rfl rfl rfl rfl ?_
    refine wpo_move (v := .bool true) rfl rfl ?_
    iterate 7 refine Xe rfl rfl rfl rfl rfl ?_
    refine wpo_pickt (v := .bool true) rfl rfl rfl rfl ?_
    refine wpo_move (v := .bool true) rfl rfl ?_
    iterate 7 refine Xe rfl rfl rfl rfl rfl ?_
    refine wpo_pickt (v := .bool true) rfl rfl rfl rfl ?_
    exact wpo_nil ⟨⟨rfl, rfl, rfl, (congrArg Value.bool (by first | (simp only [h112, h115, h117, h118, b0, b1, b2, b3, b4, b5, b6, b7, b8, b9]; done) | simp [h112, h115, h117, h118]))⟩, rfl⟩
   ·
    have h120 := Y9 h117
    have h121 := of_decide_eq_true h120
    refine Xc rfl rfl rfl h117 ?_
    refine wpo_fieldAddr (o' := 3) Qw rfl rfl rfl ?_
    refine Xc rfl rfl rfl h117 ?_
    refine wpo_load1 (v := .int .i64 m.t.ve) X0 rfl (k111.cell rfl) rfl ?_
    refine Xc rfl rfl rfl h117 ?_
    refine wpo_fieldAddr (o' := 3) Qw rfl rfl rfl ?_
    refine Xc rfl rfl rfl h117 ?_
    refine wpo_load1 (v := .int .i64 p.t.ve) X0 rfl (hN107.blk.cell rfl) rfl ?_
    refine Xc rfl rfl rfl h117 ?_
    refine wpo_neq (q := !(decide (m.t.ve = p.t.ve))) rfl rfl rfl rfl ?_
    refine wpo_pickf (v := .bool (!(decide (m.t.ve = p.t.ve)))) rfl h117 rfl rfl ?_
    refine wpo_move (v := .bool (!(decide (m.t.ve = p.t.ve)))) rfl rfl ?_
    rcases Xy (!(decide (m.t.ve = p.t.ve))) with h122 | h122
    ·
     have h123 := Q3 h122
     have h124 := of_decide_eq_false h123
     iterate 5 refine Xe rfl rfl rfl h122 rfl ?_
     refine wpo_pickt (v := .bool true) rfl h122 rfl rfl ?_
     refine wpo_move (v := .bool true) rfl rfl ?_
     iterate 5 refine Xe rfl rfl rfl rfl rfl ?_
     refine wpo_pickt (v := .bool true) rfl rfl rfl rfl ?_
     refine wpo_move (v := .bool true) rfl rfl ?_
     iterate 7 refine Xe rfl rfl rfl rfl rfl ?_
     refine wpo_pickt (v := .bool true) rfl rfl rfl rfl ?_
     refine wpo_move (v := .bool true) rfl rfl ?_
     iterate 7 refine Xe rfl rfl rfl rfl rfl ?_
     refine wpo_pickt (v := .bool true) rfl rfl rfl rfl ?_
     exact wpo_nil ⟨⟨rfl, rfl, rfl, (congrArg Value.bool (by first | (simp only [h112, h115, h117, h120, h122, h123, b0, b1, b2, b3, b4, b5, b6, b7, b8, b9]; done) | simp [h112, h115, h117, h120, h122, h123]))⟩, rfl⟩
    ·
     have h125 := Y9 h122
     have h126 := of_decide_eq_true h125
     refine Xc rfl rfl rfl h122 ?_
     refine wpo_fieldAddr (o' := 4) Q4 rfl rfl rfl ?_
     refine Xc rfl rfl rfl h122 ?_
     refine wpo_load1 (v := .int .i64 m.t.num) X0 rfl (k111.cell rfl) rfl ?_
     refine Xc rfl rfl rfl h122 ?_
     refine wpo_fieldAddr (o' := 4) Q4 rfl rfl rfl ?_
     refine Xc rfl rfl rfl h122 ?_
     refine wpo_load1 (v := .int .i64 p.t.num) X0 rfl (hN107.blk.cell rfl) rfl ?_
     refine Xc rfl rfl rfl h122 ?_
     refine wpo_neq (q := !(decide (m.t.num = p.t.num))) rfl rfl rfl rfl ?_
     refine wpo_pickf (v := .bool (!(decide (m.t.num = p.t.num)))) rfl h122 rfl rfl ?_
     refine wpo_move (v := .bool (!(decide (m.t.num = p.t.num)))) rfl rfl ?_
     rcases Xy (!(decide (m.t.num = p.t.num))) with h127 | h127
     ·
      have h128 := Q3 h127
      have h129 := of_decide_eq_false h128
      iterate 5 refine Xe rfl rfl rfl h127 rfl ?_
      refine wpo_pickt (v := .bool true) rfl h127 rfl rfl ?_
      refine wpo_move (v := .bool true) rfl rfl ?_
      iterate 7 refine Xe rfl rfl rfl rfl rfl ?_
      refine wpo_pickt (v := .bool true) rfl rfl rfl rfl ?_
      refine wpo_move (v := .bool true) rfl rfl ?_
      iterate 7 refine Xe rfl rfl rfl rfl rfl ?_
      refine wpo_pickt (v := .bool true) rfl rfl rfl rfl ?_
      exact wpo_nil ⟨⟨rfl, rfl, rfl, (congrArg Value.bool (by first | (simp only [h112, h115, h117, h120, h122, h125, h127, h128, b0, b1, b2, b3, b4, b5, b6, b7, b8, b9]; done) | simp [h112, h115, h117, h120, h122, h125, h127, h128]))⟩, rfl⟩
     ·
      have h130 := Y9 h127
      have h131 := of_decide_eq_true h130
      refine Xc rfl rfl rfl h127 ?_
      refine wpo_fieldAddr (o' := 7) Jj rfl rfl rfl ?_
      refine Xc rfl rfl rfl h127 ?_
      refine wpo_load1 (v := .int .i64 m.t.to) X0 rfl (k111.cell rfl) rfl ?_
      refine Xc rfl rfl rfl h127 ?_
      refine wpo_fieldAddr (o' := 7) Jj rfl rfl rfl ?_
      refine Xc rfl rfl rfl h127 ?_
      refine wpo_load1 (v := .int .i64 p.t.to) X0 rfl (hN107.blk.cell rfl) rfl ?_
      refine Xc rfl rfl rfl h127 ?_
      refine wpo_neq (q := !(decide (m.t.to = p.t.to))) rfl rfl rfl rfl ?_
      refine wpo_pickf (v := .bool (!(decide (m.t.to = p.t.to)))) rfl h127 rfl rfl ?_
      refine wpo_move (v := .bool (!(decide (m.t.to = p.t.to)))) rfl rfl ?_
      rcases Xy (!(decide (m.t.to = p.t.to))) with h132 | h132
      ·
       have h133 := Q3 h132
       have h134 := of_decide_eq_false h133
       iterate 7 refine Xe rfl rfl rfl h132 rfl ?_
       refine wpo_pickt (v := .bool true) rfl h132 rfl rfl ?_
       refine wpo_move (v := .bool true) rfl rfl ?_
       iterate 7 refine Xe rfl rfl rfl rfl rfl ?_
       refine wpo_pickt (v := .bool true) rfl rfl rfl rfl ?_
       exact wpo_nil ⟨⟨rfl, rfl, rfl, (congrArg Value.bool (by first | (simp only [h112, h115, h117, h120, h122, h125, h127, h130, h132, h133, b0, b1, b2, b3, b4, b5, b6, b7, b8, b9]; done) | simp [h112, h115, h117, h120, h122, h125, h127, h130, h132, h133]))⟩, rfl⟩
      ·
       have h135 := Y9 h132
       have h136 := of_decide_eq_true h135
       refine Xc rfl rfl rfl h132 ?_
       refine wpo_fieldAddr (o' := 5) Y2 rfl rfl rfl ?_
       refine Xc rfl rfl rfl h132 ?_
       refine wpo_load1 (v := .slice m.sa m.t.slots.length m.sc) Jc rfl (k111.cell rfl) rfl ?_
       refine Xc rfl rfl rfl h132 ?_
       refine wpo_len (by kernel_rfl) rfl rfl ?_
       refine Xc rfl rfl rfl h132 ?_
       refine wpo_fieldAddr (o' := 5) Y2 rfl rfl rfl ?_
       refine Xc rfl rfl rfl h132 ?_
       refine wpo_load1 (v := .slice p.sa p.t.slots.length p.sc) Jc rfl (hN107.blk.cell rfl) rfl ?_
       refine Xc rfl rfl rfl h132 ?_
       refine wpo_len (by kernel_rfl) rfl rfl ?_
       refine Xc rfl rfl rfl h132 ?_
       refine wpo_neq (q := !(decide ((m.t.slots.length : Int) = (p.t.slots.length : Int)))) rfl rfl rfl rfl ?_
       refine wpo_pickf (v := .bool (!(decide ((m.t.slots.length : Int) = (p.t.slots.length : Int))))) rfl h132 rfl rfl ?_
       refine wpo_move (v := .bool (!(decide ((m.t.slots.length : Int) = (p.t.slots.length : Int))))) rfl rfl ?_
       rcases Xy (!(decide ((m.t.slots.length : Int) = (p.t.slots.length : Int)))) with h137 | h137
       ·
        have h138 := Q3 h137
        have h139 := of_decide_eq_false h138
        iterate 7 refine Xe rfl rfl rfl h137 rfl ?_
        refine wpo_pickt (v := .bool true) rfl h137 rfl rfl ?_
        exact wpo_nil ⟨⟨rfl, rfl, rfl, (congrArg Value.bool (by first | (simp only [h112, h115, h117, h120, h122, h125, h127, h130, h132, h135, h137, h138, b0, b1, b2, b3, b4, b5, b6, b7, b8, b9]; done) | simp [h112, h115, h117, h120, h122, h125, h127, h130, h132, h135, h137, h138]))⟩, rfl⟩
       ·
        have h140 := Y9 h137
        have h141 := of_decide_eq_true h140
        refine Xc rfl rfl rfl h137 ?_
        refine wpo_fieldAddr (o' := 6) Qk rfl rfl rfl ?_
        refine Xc rfl rfl rfl h137 ?_
        refine wpo_load1 (v := .slice m.qa m.t.queue.length m.qc) Jo rfl (k111.cell rfl) rfl ?_
        refine Xc rfl rfl rfl h137 ?_
        refine wpo_len (by kernel_rfl) rfl rfl ?_
        refine Xc rfl rfl rfl h137 ?_
        refine wpo_fieldAddr (o' := 6) Qk rfl rfl rfl ?_
        refine Xc rfl rfl rfl h137 ?_
        refine wpo_load1 (v := .slice p.qa p.t.queue.length p.qc) Jo rfl (hN107.blk.cell rfl) rfl ?_
        refine Xc rfl rfl rfl h137 ?_
        refine wpo_len (by kernel_rfl) rfl rfl ?_
        refine Xc rfl rfl rfl h137 ?_
        refine wpo_neq (q := !(decide ((m.t.queue.length : Int) = (p.t.queue.length : Int)))) rfl rfl rfl rfl ?_
        refine wpo_pickf (v := .bool (!(decide ((m.t.queue.length : Int) = (p.t.queue.length : Int))))) rfl h137 rfl rfl ?_
        exact wpo_nil ⟨⟨rfl, rfl, rfl, (congrArg Value.bool (by first | (simp only [h112, h115, h117, h120, h122, h125, h127, h130, h132, h135, h137, h140, b0, b1, b2, b3, b4, b5, b6, b7, b8, b9]; done) | simp [h112, h115, h117, h120, h122, h125, h127, h130, h132, h135, h137, h140]))⟩, rfl⟩
 ·
  rintro f142 w143 ⟨⟨e144, e145, e146, e147⟩, rfl⟩
  refine Xq e147 (fun h148 => ?_) (fun h148 => ?_)
  ·
   refine Xa ?_
   refine wpo_assign (v := .bool false) rfl rfl ?_
   refine wpo_nil ?_
   refine Xj ?_
   refine X7 ?_
   refine ⟨.bool false, res1 rfl rfl, ?_, hb108⟩
   exact congrArg Value.bool (decide_eq_false (fun e => by have h := h148; rw [e] at h; simp at h)).symm
  ·
   have h149 := J5 h148
   have h150 := J5 h149
   have h151 := J5 h150
   have h152 := J5 h151
   have h153 := J5 h152
   have h154 := J5 h153
   have h155 := Y9 h154
   have h156 := of_decide_eq_true h155
   have h157 := J6 h153
   have h158 := Y9 h157
   have h159 := of_decide_eq_true h158
   have h160 := J6 h152
   have h161 := Y9 h160
   have h162 := of_decide_eq_true h161
   have h163 := J6 h151
   have h164 := Y9 h163
   have h165 := of_decide_eq_true h164
   have h166 := J6 h150
   have h167 := Y9 h166
   have h168 := of_decide_eq_true h167
   have h169 := J6 h149
   have h170 := Y9 h169
   have h171 := of_decide_eq_true h170
   have h172 := J6 h148
   have h173 := Y9 h172
   have h174 := of_decide_eq_true h173
   refine Xk ?_
   refine Xn ?_
   refine Xi ?_
   refine Xa ?_
   refine wpo_assign (v := .int .i64 0) rfl rfl ?_
   refine wpo_nil ?_
   refine Xv ?_
   have k175 := (hN103.blk.grown0 hN107.grw)
   refine Ye (fun mm f' w' => ∃ (k : Nat), mm = m.t.slots.length - k ∧ k ≤ m.t.slots.length ∧ m.t.slots.take k = p.t.slots.take k ∧ f' 5 = .int .i64 (k : Int) ∧ f' 2 = .pointer (some ⟨B101, 0, none⟩) ∧ f' 3 = .pointer (some ⟨B105, 0, none⟩) ∧ w.grownBy w' none ∧ Blk w' B101 35 #[.int .i64 m.t.kind, .int .i64 m.t.lab.s, .int .i64 m.t.lab.v, .int .i64 m.t.ve, .int .i64 m.t.num, .slice m.sa m.t.slots.length m.sc, .slice m.qa m.t.queue.length m.qc, .int .i64 m.t.to] ∧ Blk w' B105 35 #[.int .i64 p.t.kind, .int .i64 p.t.lab.s, .int .i64 p.t.lab.v, .int .i64 p.t.ve, .int .i64 p.t.num, .slice p.sa p.t.slots.length p.sc, .slice p.qa p.t.queue.length p.qc, .int .i64 p.t.to]) (m.t.slots.length - 0) ⟨0, rfl, (Nat.zero_le _), rfl, rfl, e144, e145, hb108, k175, hN107.blk⟩ ?_
   rintro mm f176 w177 ⟨k, hm179, hk, hs5, e180, e181, e182, hb178, k183, k184⟩
   refine Xi ?_
   refine Xa ?_
   refine wpo_move (v := .int .i64 (k : Int)) e180 rfl ?_
   refine wpo_fieldAddr (o' := 5) Y2 e181 rfl rfl ?_
   refine wpo_load1 (v := .slice m.sa m.t.slots.length m.sc) Jc rfl (k183.cell rfl) rfl ?_
   refine wpo_len (by kernel_rfl) rfl rfl ?_
   refine wpo_lss (q := decide ((k : Int) < (m.t.slots.length : Int))) rfl rfl rfl rfl ?_
   refine wpo_nil ?_
   refine Xq rfl (fun h185 => ?_) (fun h185 => ?_)
   ·
    have h186 := of_decide_eq_true h185
    refine Xk ?_
    refine Xn ?_
    refine Xi ?_
    refine Xv ?_
    refine Xi ?_
    obtain ⟨x219, hx220⟩ := Qc (l := m.t.slots) (i := k) (by omega)
    obtain ⟨b221, q222, o223, ha224, ho225, hr226⟩ := SlAt.at ha.1 (Yh hx220)
    obtain ⟨x227, hx228⟩ := Qc (l := p.t.slots) (i := k) (by omega)
    obtain ⟨b229, q230, o231, ha232, ho233, hr234⟩ := SlAt.at hb.1 (Yh hx228)
    refine Qh (m := 10) (vals := [(65, .pointer (some ⟨B101, 5, none⟩)), (66, .slice m.sa m.t.slots.length m.sc), (67, .int .i64 (k : Int)), (68, .pointer (some ⟨b221, o223, none⟩)), (69, .agg #[.int .i64 x219.th, .int .i64 x219.ve, .bool x219.rd, .bool x219.wr, .bool x219.wk]), (70, .pointer (some ⟨B105, 5, none⟩)), (71, .slice p.sa p.t.slots.length p.sc), (72, .int .i64 (k : Int)), (73, .pointer (some ⟨b229, o231, none⟩)), (74, .agg #[.int .i64 x227.th, .int .i64 x227.ve, .bool x227.rd, .bool x227.wr, .bool x227.wk])]) (fun w' => w177.grownBy w' none) Qq (by kernel_rfl) (X5 _) ?_ ?_
    ·
     refine Xd rfl (fun w235 hi236 => ?_) ?_
     ·
      have hb237 := low0 hb178 hi236
      refine wpo_fieldAddr (o' := 5) Y2 e181 rfl rfl ?_
      exact wpo_nil ⟨rfl, hi236⟩
     refine Xd rfl (fun w238 hi239 => ?_) ?_
     ·
      have hb240 := low0 hb178 hi239
      have k241 := (k183.grown0 hi239)
      refine wpo_load1 (v := .slice m.sa m.t.slots.length m.sc) Jc rfl (k241.cell rfl) rfl ?_
      exact wpo_nil ⟨rfl, hi239⟩
     refine Xd rfl (fun w242 hi243 => ?_) ?_
     ·
      have hb244 := low0 hb178 hi243
      refine wpo_move (v := .int .i64 (k : Int)) e180 rfl ?_
      exact wpo_nil ⟨rfl, hi243⟩
     refine Xd rfl (fun w245 hi246 => ?_) ?_
     ·
      have hb247 := low0 hb178 hi246
      refine X2 We rfl rfl ha224 ho225 (by omega) (by omega) rfl ?_
      exact wpo_nil ⟨rfl, hi246⟩
     refine Xd rfl (fun w248 hi249 => ?_) ?_
     ·
      have hb250 := low0 hb178 hi249
      refine wpo_loadn (vs := [.int .i64 x219.th, .int .i64 x219.ve, .bool x219.rd, .bool x219.wr, .bool x219.wk]) Y1 rfl rfl (Qa (Yp hr226 hb250) 0 5 rfl) rfl ?_
      exact wpo_nil ⟨rfl, hi249⟩
     refine Xd rfl (fun w251 hi252 => ?_) ?_
     ·
      have hb253 := low0 hb178 hi252
      refine wpo_fieldAddr (o' := 5) Y2 e182 rfl rfl ?_
      exact wpo_nil ⟨rfl, hi252⟩
     refine Xd rfl (fun w254 hi255 => ?_) ?_
     ·
      have hb256 := low0 hb178 hi255
      have k257 := (k184.grown0 hi255)
      refine wpo_load1 (v := .slice p.sa p.t.slots.length p.sc) Jc rfl (k257.cell rfl) rfl ?_
      exact wpo_nil ⟨rfl, hi255⟩
     refine Xd rfl (fun w258 hi259 => ?_) ?_
     ·
      have hb260 := low0 hb178 hi259
      refine wpo_move (v := .int .i64 (k : Int)) e180 rfl ?_
      exact wpo_nil ⟨rfl, hi259⟩
     refine Xd rfl (fun w261 hi262 => ?_) ?_
     ·
      have hb263 := low0 hb178 hi262
      refine X2 We rfl rfl ha232 ho233 (by omega) (by omega) rfl ?_
      exact wpo_nil ⟨rfl, hi262⟩
     refine Xd rfl (fun w264 hi265 => ?_) ?_
     ·
      have hb266 := low0 hb178 hi265
      refine wpo_loadn (vs := [.int .i64 x227.th, .int .i64 x227.ve, .bool x227.rd, .bool x227.wr, .bool x227.wk]) Y1 rfl rfl (Qa (Yp hr234 hb266) 0 5 rfl) rfl ?_
      exact wpo_nil ⟨rfl, hi265⟩
     exact Q0
    ·
     intro w267 hi268
     have hb269 := low0 hb178 hi268
     refine wpo_eqs (q := !(decide (x219 = x227))) rfl rfl rfl rfl (fun _ => B4 _ _ x219 x227 _) (fun _ => B5 x219 x227 _) rfl rfl ?_
     refine wpo_nil ?_
     refine Xn ?_
     refine Xq rfl (fun h270 => ?_) (fun h270 => ?_)
     ·
      have h271 := Q3 h270
      have h272 := of_decide_eq_false h271
      refine Xa ?_
      refine wpo_assign (v := .bool false) rfl rfl ?_
      refine wpo_nil ?_
      refine Xj ?_
      refine Qd ?_
      refine X7 ?_
      refine X7 ?_
      refine Qd ?_
      refine X7 ?_
      refine ⟨.bool false, res1 rfl rfl, ?_, hb269⟩
      exact congrArg Value.bool (decide_eq_false (fun e => V4 hx220 hx228 (of_decide_eq_false h271) (congrArg Th.slots e))).symm
     ·
      have h273 := Y9 h270
      have h274 := of_decide_eq_true h273
      refine Xk ?_
      refine Yy ?_
      refine Xn ?_
      refine Xl ?_
      refine wpo_move (v := .int .i64 (k : Int)) e180 rfl ?_
      refine wpo_add (c := (k : Int) + 1) rfl rfl (by omega) (by omega) (by omega) rfl ?_
      refine wpo_assign (v := .int .i64 ((k : Int) + 1)) rfl rfl ?_
      refine wpo_nil ?_
      refine Xn ?_
      have k275 := (k183.grown0 hi268)
      have k276 := (k184.grown0 hi268)
      exact ⟨m.t.slots.length - (k + 1), by omega, (k + 1), rfl, (by omega), (Jr hs5 hx220 hx228 (of_decide_eq_true h273)), rfl, e181, e182, hb269, k275, k276⟩
   ·
    have h277 := of_decide_eq_false h185
    refine Yj ?_
    refine Yt ?_
    refine Yt ?_
    refine Jf ?_
    refine Xn ?_
    refine Xi ?_
    refine Xa ?_
    refine wpo_assign (v := .int .i64 0) rfl rfl ?_
    refine wpo_nil ?_
    refine Xv ?_
    refine Ye (fun mm f' w' => ∃ (j : Nat), mm = m.t.queue.length - j ∧ j ≤ m.t.queue.length ∧ m.t.queue.take j = p.t.queue.take j ∧ f' 6 = .int .i64 (j : Int) ∧ f' 2 = .pointer (some ⟨B101, 0, none⟩) ∧ f' 3 = .pointer (some ⟨B105, 0, none⟩) ∧ w.grownBy w' none ∧ Blk w' B101 35 #[.int .i64 m.t.kind, .int .i64 m.t.lab.s, .int .i64 m.t.lab.v, .int .i64 m.t.ve, .int .i64 m.t.num, .slice m.sa m.t.slots.length m.sc, .slice m.qa m.t.queue.length m.qc, .int .i64 m.t.to] ∧ Blk w' B105 35 #[.int .i64 p.t.kind, .int .i64 p.t.lab.s, .int .i64 p.t.lab.v, .int .i64 p.t.ve, .int .i64 p.t.num, .slice p.sa p.t.slots.length p.sc, .slice p.qa p.t.queue.length p.qc, .int .i64 p.t.to]) (m.t.queue.length - 0) ⟨0, rfl, (Nat.zero_le _), rfl, rfl, e181, e182, hb178, k183, k184⟩ ?_
    rintro mm f278 w279 ⟨j, hm281, hj, hq6, e282, e283, e284, hb280, k285, k286⟩
    refine Xi ?_
    refine Xa ?_
    refine wpo_move (v := .int .i64 (j : Int)) e282 rfl ?_
    refine wpo_fieldAddr (o' := 6) Qk e283 rfl rfl ?_
    refine wpo_load1 (v := .slice m.qa m.t.queue.length m.qc) Jo rfl (k285.cell rfl) rfl ?_
    refine wpo_len (by kernel_rfl) rfl rfl ?_
    refine wpo_lss (q := decide ((j : Int) < (m.t.queue.length : Int))) rfl rfl rfl rfl ?_
    refine wpo_nil ?_
    refine Xq rfl (fun h287 => ?_) (fun h287 => ?_)
    ·
     have h288 := of_decide_eq_true h287
     refine Xk ?_
     refine Xn ?_
     refine Xi ?_
     refine Xv ?_
     refine Xi ?_
     obtain ⟨x321, hx322⟩ := Qc (l := m.t.queue) (i := j) (by omega)
     obtain ⟨b323, q324, o325, ha326, ho327, hr328⟩ := SlAt.at ha.2.1 (Yh hx322)
     obtain ⟨x329, hx330⟩ := Qc (l := p.t.queue) (i := j) (by omega)
     obtain ⟨b331, q332, o333, ha334, ho335, hr336⟩ := SlAt.at hb.2.1 (Yh hx330)
     refine Qh (m := 10) (vals := [(83, .pointer (some ⟨B101, 6, none⟩)), (84, .slice m.qa m.t.queue.length m.qc), (85, .int .i64 (j : Int)), (86, .pointer (some ⟨b323, o325, none⟩)), (87, .int .i64 x321), (88, .pointer (some ⟨B105, 6, none⟩)), (89, .slice p.qa p.t.queue.length p.qc), (90, .int .i64 (j : Int)), (91, .pointer (some ⟨b331, o333, none⟩)), (92, .int .i64 x329)]) (fun w' => w279.grownBy w' none) Qq (by kernel_rfl) (X5 _) ?_ ?_
     ·
      refine Xd rfl (fun w337 hi338 => ?_) ?_
      ·
       have hb339 := low0 hb280 hi338
       refine wpo_fieldAddr (o' := 6) Qk e283 rfl rfl ?_
       exact wpo_nil ⟨rfl, hi338⟩
      refine Xd rfl (fun w340 hi341 => ?_) ?_
      ·
       have hb342 := low0 hb280 hi341
       have k343 := (k285.grown0 hi341)
       refine wpo_load1 (v := .slice m.qa m.t.queue.length m.qc) Jo rfl (k343.cell rfl) rfl ?_
       exact wpo_nil ⟨rfl, hi341⟩
      refine Xd rfl (fun w344 hi345 => ?_) ?_
      ·
       have hb346 := low0 hb280 hi345
       refine wpo_move (v := .int .i64 (j : Int)) e282 rfl ?_
       exact wpo_nil ⟨rfl, hi345⟩
      refine Xd rfl (fun w347 hi348 => ?_) ?_
      ·
       have hb349 := low0 hb280 hi348
       refine X2 Km rfl rfl ha326 ho327 (by omega) (by omega) rfl ?_
       exact wpo_nil ⟨rfl, hi348⟩
      refine Xd rfl (fun w350 hi351 => ?_) ?_
      ·
       have hb352 := low0 hb280 hi351
       refine wpo_load1 (v := .int .i64 x321) X0 rfl ((Yp hr328 hb352) 0 _ rfl) rfl ?_
       exact wpo_nil ⟨rfl, hi351⟩
      refine Xd rfl (fun w353 hi354 => ?_) ?_
      ·
       have hb355 := low0 hb280 hi354
       refine wpo_fieldAddr (o' := 6) Qk e284 rfl rfl ?_
       exact wpo_nil ⟨rfl, hi354⟩
      refine Xd rfl (fun w356 hi357 => ?_) ?_
      ·
       have hb358 := low0 hb280 hi357
       have k359 := (k286.grown0 hi357)
       refine wpo_load1 (v := .slice p.qa p.t.queue.length p.qc) Jo rfl (k359.cell rfl) rfl ?_
       exact wpo_nil ⟨rfl, hi357⟩
      refine Xd rfl (fun w360 hi361 => ?_) ?_
      ·
       have hb362 := low0 hb280 hi361
       refine wpo_move (v := .int .i64 (j : Int)) e282 rfl ?_
       exact wpo_nil ⟨rfl, hi361⟩
      refine Xd rfl (fun w363 hi364 => ?_) ?_
      ·
       have hb365 := low0 hb280 hi364
       refine X2 Km rfl rfl ha334 ho335 (by omega) (by omega) rfl ?_
       exact wpo_nil ⟨rfl, hi364⟩
      refine Xd rfl (fun w366 hi367 => ?_) ?_
      ·
       have hb368 := low0 hb280 hi367
       refine wpo_load1 (v := .int .i64 x329) X0 rfl ((Yp hr336 hb368) 0 _ rfl) rfl ?_
       exact wpo_nil ⟨rfl, hi367⟩
      exact Q0
     ·
      intro w369 hi370
      have hb371 := low0 hb280 hi370
      refine wpo_neq (q := !(decide (x321 = x329))) rfl rfl rfl rfl ?_
      refine wpo_nil ?_
      refine Xn ?_
      refine Xq rfl (fun h372 => ?_) (fun h372 => ?_)
      ·
       have h373 := Q3 h372
       have h374 := of_decide_eq_false h373
       refine Xa ?_
       refine wpo_assign (v := .bool false) rfl rfl ?_
       refine wpo_nil ?_
       refine Xj ?_
       refine Qd ?_
       refine X7 ?_
       refine X7 ?_
       refine Qd ?_
       refine X7 ?_
       refine ⟨.bool false, res1 rfl rfl, ?_, hb371⟩
       exact congrArg Value.bool (decide_eq_false (fun e => V4 hx322 hx330 (of_decide_eq_false h373) (congrArg Th.queue e))).symm
      ·
       have h375 := Y9 h372
       have h376 := of_decide_eq_true h375
       refine Xk ?_
       refine Yy ?_
       refine Xn ?_
       refine Xl ?_
       refine wpo_move (v := .int .i64 (j : Int)) e282 rfl ?_
       refine wpo_add (c := (j : Int) + 1) rfl rfl (by omega) (by omega) (by omega) rfl ?_
       refine wpo_assign (v := .int .i64 ((j : Int) + 1)) rfl rfl ?_
       refine wpo_nil ?_
       refine Xn ?_
       have k377 := (k285.grown0 hi370)
       have k378 := (k286.grown0 hi370)
       exact ⟨m.t.queue.length - (j + 1), by omega, (j + 1), rfl, (by omega), (Jr hq6 hx322 hx330 (of_decide_eq_true h375)), rfl, e283, e284, hb371, k377, k378⟩
    ·
     have h379 := of_decide_eq_false h287
     refine Yj ?_
     refine Yt ?_
     refine Yt ?_
     refine Jf ?_
     refine Xn ?_
     refine Xa ?_
     refine wpo_assign (v := .bool true) rfl rfl ?_
     refine wpo_nil ?_
     refine Xj ?_
     refine ⟨.bool true, res1 rfl rfl, ?_, hb280⟩
     exact congrArg Value.bool (decide_eq_true (Ct (of_decide_eq_true h155) (of_decide_eq_true h158) (of_decide_eq_true h161) (of_decide_eq_true h164) (Kx hs5 (by omega) (by omega)) (Kx hq6 (by omega) (by omega)) (of_decide_eq_true h167))).symm
end Go.Dw.J
end
section
namespace Go.Dw.J
open Go.RowKit Go.Dw Go.Proofs
set_option linter.unusedSectionVars false
set_option maxRecDepth 100000
set_option maxHeartbeats 4000000
set_option linter.unusedSimpArgs false
set_option linter.unusedVariables false
theorem Qp : elemSz Try.prog 23 = some 8 := by kernel_rfl
theorem Pe : goFn Try.prog 56 = true := by kernel_rfl
theorem S4 : mkTy Try.prog 23 = some (35, 8, 96, some (.agg #[.int .i64 0, .int .i64 0, .int .i64 0, .int .i64 0, .int .i64 0, .slice none 0 0, .slice none 0 0, .int .i64 0])) := by kernel_rfl
theorem Pm : mkTy Try.prog 33 = some (3, 1, 8, some (.int .i64 0)) := by kernel_rfl
theorem Ju [Comp] (k : Int) (w : World) (a : Option Addr) (n c : Nat) : CallsR Try.prog 56 #[.slice a n c, .int .i64 k] w (fun v w' => v = .bool (inR k 1 (n : Int)) ∧ w.grownBy w' none) := by
 refine Xp (n := 9) Try.func56 rfl Try.ntmps56 rfl ?_
 have hb0 := World.grownBy.refl w none
 refine Xa ?_
 refine wpo_assign (v := .bool false) rfl rfl ?_
 refine wpo_nil ?_
 refine Xa ?_
 refine wpo_move (v := .int .i64 k) rfl rfl ?_
 refine wpo_move (v := .slice a n c) rfl rfl ?_
 refine wpo_len (by kernel_rfl) rfl rfl ?_
 refine Xh (vs := [.int .i64 k, .int .i64 1, .int .i64 (n : Int)]) V3 (Xb rfl (Xb rfl (Xb rfl Xg))) rfl (Jh k 1 (n : Int) _) ?_
 rintro _ w101 ⟨rfl, hg102⟩
 have hb103 := low0 hb0 hg102
 refine wpo_assign (v := .bool (inR k 1 (n : Int))) rfl rfl ?_
 refine wpo_nil ?_
 refine Xj ?_
 refine ⟨.bool (inR k 1 (n : Int)), res1 rfl rfl, ?_, hb103⟩
 rfl
theorem Bo [Comp] (k kd : Int) (hk : -9223372036854775807 ≤ k) (w : World) (ms : List MTh) (a : Option Addr) (c : Nat) (ht : TabAt w a ms) (hlen : TabLen ms) (hn : ms.length ≤ 1048576) : CallsR Try.prog 71 #[.slice a ms.length c, .int .i64 k, .int .i64 kd] w (fun v w' => v = .bool (kindAt (tabT ms) k kd) ∧ w.grownBy w' none) := by
 refine Xp (n := 20) Try.func71 rfl Try.ntmps71 rfl ?_
 have hb0 := World.grownBy.refl w none
 refine Xa ?_
 refine wpo_assign (v := .bool false) rfl rfl ?_
 refine wpo_nil ?_
 refine Xs (fun f' w' => (f' 6 = .bool (inR k 1 (ms.length : Int) && (decide ((mAt ms ((k - 1).toNat)).t.kind = kd)))) ∧ w.grownBy w' none) ?_ ?_
 ·
  refine wpo_move (v := .slice a ms.length c) rfl rfl ?_
  refine wpo_move (v := .int .i64 k) rfl rfl ?_
  refine Xh (vs := [.slice a ms.length c, .int .i64 k]) Pe (Xb rfl (Xb rfl Xg)) rfl (Ju k _ _ _ _) ?_
  rintro _ w116 ⟨rfl, hg117⟩
  have hb118 := low0 hb0 hg117
  refine wpo_move (v := .bool (inR k 1 (ms.length : Int))) rfl rfl ?_
  rcases Xy (inR k 1 (ms.length : Int)) with h119 | h119
  ·
   have hr120 := Kh.1 h119
   refine Xc rfl rfl rfl h119 ?_
   refine wpo_move (v := .slice a ms.length c) rfl rfl ?_
   refine Xc rfl rfl rfl h119 ?_
   refine wpo_move (v := .int .i64 k) rfl rfl ?_
   refine Xc rfl rfl rfl h119 ?_
   refine wpo_sub (c := k - 1) rfl rfl (by omega) (by omega) (by omega) rfl ?_
   refine Xc rfl rfl rfl h119 ?_
   obtain ⟨b123, q124, o125, ha126, ho127, hr128⟩ := SlAt.at (TabAt.low ht hb118).1 (Yh (Xz (show (k - 1).toNat < ms.length by omega)))
   have hle129 := TabLen.at hlen (Xz (show (k - 1).toNat < ms.length by omega))
   refine X2 Qp rfl rfl ha126 ho127 (by omega) (by omega) rfl ?_
   refine Xc rfl rfl rfl h119 ?_
   refine wpo_fieldAddr (o' := o125) X9 rfl rfl rfl ?_
   refine Xc rfl rfl rfl h119 ?_
   refine wpo_load1 (v := .int .i64 ((mAt ms ((k - 1).toNat)).t.kind)) X0 rfl (hr128 0 _ rfl) rfl ?_
   refine Xc rfl rfl rfl h119 ?_
   refine wpo_move (v := .int .i64 kd) rfl rfl ?_
   refine Xc rfl rfl rfl h119 ?_
   refine wpo_eql (q := decide ((mAt ms ((k - 1).toNat)).t.kind = kd)) rfl rfl rfl rfl ?_
   refine wpo_pickt (v := .bool (decide ((mAt ms ((k - 1).toNat)).t.kind = kd))) rfl h119 rfl rfl ?_
   refine wpo_assign (v := .bool (decide ((mAt ms ((k - 1).toNat)).t.kind = kd))) rfl rfl ?_
   exact wpo_nil ⟨(congrArg Value.bool (by first | (simp only [h119, b0, b1, b2, b3, b4, b5, b6, b7, b8, b9]; done) | simp [h119])), hg117⟩
  ·
   iterate 8 refine Xe rfl rfl rfl h119 rfl ?_
   refine wpo_pickf (v := .bool false) rfl h119 rfl rfl ?_
   refine wpo_assign (v := .bool false) rfl rfl ?_
   exact wpo_nil ⟨(congrArg Value.bool (by first | (simp only [h119, b0, b1, b2, b3, b4, b5, b6, b7, b8, b9]; done) | simp [h119])), hg117⟩
 ·
  rintro f130 w131 ⟨e132, hg133⟩
  have hb134 := low0 hb0 hg133
  refine Xj ?_
  refine ⟨.bool (inR k 1 (ms.length : Int) && (decide ((mAt ms ((k - 1).toNat)).t.kind = kd))), res1 rfl e132, ?_, hb134⟩
  exact congrArg Value.bool Bp
theorem U6 [Comp] (w : World) (ms : List MTh) (a : Option Addr) (c : Nat) (ht : TabAt w a ms) (hlen : TabLen ms) (hn : ms.length ≤ 1048576) : CallsR Try.prog 15 #[.slice a ms.length c] w (fun v w' => v = .bool (tableOk (tabT ms)) ∧ w.grownBy w' none) := by
 refine Xp (n := 92) Try.func15 rfl Try.ntmps15 rfl ?_
 have hb0 := World.grownBy.refl w none
 refine Xa ?_
 refine wpo_assign (v := .bool false) rfl rfl ?_
 refine wpo_nil ?_
 refine Xi ?_
 refine Xa ?_
 refine wpo_assign (v := .int .i64 0) rfl rfl ?_
 refine wpo_nil ?_
 refine Xv ?_
 refine Ye (fun mm f' w' => ∃ (k : Nat), mm = ms.length - k ∧ k ≤ ms.length ∧ (((tabT ms).take k).all (rowOk (tabT ms))) = true ∧ f' 3 = .int .i64 (k : Int) ∧ f' 0 = .slice a ms.length c ∧ w.grownBy w' none) (ms.length - 0) ⟨0, rfl, (Nat.zero_le _), rfl, rfl, rfl, hb0⟩ ?_
 rintro mm f101 w102 ⟨k, hm104, hk, hall, e105, e106, hb103⟩
 refine Xi ?_
 refine Xa ?_
 refine wpo_move (v := .int .i64 (k : Int)) e105 rfl ?_
 refine wpo_move (v := .slice a ms.length c) e106 rfl ?_
 refine wpo_len (by kernel_rfl) rfl rfl ?_
 refine wpo_lss (q := decide ((k : Int) < (ms.length : Int))) rfl rfl rfl rfl ?_
 refine wpo_nil ?_
 refine Xq rfl (fun h107 => ?_) (fun h107 => ?_)
 ·
  have h108 := of_decide_eq_true h107
  refine Xk ?_
  refine Xn ?_
  refine Xi ?_
  refine Xv ?_
  refine Xi ?_
  refine Xs (fun f' w' => (f' 0 = .slice a ms.length c ∧ f' 3 = .int .i64 (k : Int) ∧ f' 48 = .bool ((!thingOk (mAt ms k).t) || ((decide ((mAt ms k).t.kind = 5)) && ((decide ((ms.length : Int) < (mAt ms k).t.to)) || (!(decide ((mAt ms ((((mAt ms k).t.to) - 1).toNat)).t.kind = 1))))))) ∧ w102.grownBy w' none) ?_ ?_
  ·
   refine wpo_move (v := .slice a ms.length c) e106 rfl ?_
   refine wpo_move (v := .int .i64 (k : Int)) e105 rfl ?_
   obtain ⟨b144, q145, o146, ha147, ho148, hr149⟩ := SlAt.at (TabAt.low ht hb103).1 (Yh (Xz (show k < ms.length by omega)))
   have hle150 := TabLen.at hlen (Xz (show k < ms.length by omega))
   refine X2 Qp rfl rfl ha147 ho148 (by omega) (by omega) rfl ?_
   refine wpo_loadn (vs := [.int .i64 ((mAt ms k).t.kind), .int .i64 ((mAt ms k).t.lab.s), .int .i64 ((mAt ms k).t.lab.v), .int .i64 ((mAt ms k).t.ve), .int .i64 ((mAt ms k).t.num), .slice ((mAt ms k).sa) ((mAt ms k).t.slots.length) ((mAt ms k).sc), .slice ((mAt ms k).qa) ((mAt ms k).t.queue.length) ((mAt ms k).qc), .int .i64 ((mAt ms k).t.to)]) Xx rfl rfl (Qa hr149 0 8 rfl) rfl ?_
   refine Xh (vs := [.agg #[.int .i64 ((mAt ms k).t.kind), .int .i64 ((mAt ms k).t.lab.s), .int .i64 ((mAt ms k).t.lab.v), .int .i64 ((mAt ms k).t.ve), .int .i64 ((mAt ms k).t.num), .slice ((mAt ms k).sa) ((mAt ms k).t.slots.length) ((mAt ms k).sc), .slice ((mAt ms k).qa) ((mAt ms k).t.queue.length) ((mAt ms k).qc), .int .i64 ((mAt ms k).t.to)]]) Pd (Xb rfl Xg) rfl (K4 (mAt ms k) _ (TabAt.th (TabAt.low ht hb103) (Xz (show k < ms.length by omega))).1 (TabAt.th (TabAt.low ht hb103) (Xz (show k < ms.length by omega))).2.1 (by first | omega | exact Nat.le_of_ble_eq_true rfl | (simp only [List.length_nil, List.length_cons, List.length_append, List.length_replicate]; omega)) (by first | omega | exact Nat.le_of_ble_eq_true rfl | (simp only [List.length_nil, List.length_cons, List.length_append, List.length_replicate]; omega))) ?_
   rintro _ w151 ⟨rfl, hg152⟩
   have hb153 := low0 hb103 hg152
   refine wpo_not (b' := !thingOk (mAt ms k).t) rfl rfl rfl ?_
   refine wpo_move (v := .bool (!thingOk (mAt ms k).t)) rfl rfl ?_
   rcases Xy (!thingOk (mAt ms k).t) with h154 | h154
   ·
    have h155 := Q3 h154
    iterate 7 refine Xe rfl rfl rfl h154 rfl ?_
    iterate 21 refine X4 rfl rfl rfl rfl ?_
    refine Xe rfl rfl rfl h154 rfl ?_
    refine wpo_pickt (v := .bool true) rfl h154 rfl rfl ?_
    exact wpo_nil ⟨⟨e106, e105, (congrArg Value.bool (by first | (simp only [h107, h154, h155, b0, b1, b2, b3, b4, b5, b6, b7, b8, b9]; done) | simp [h107, h154, h155]))⟩, hg152⟩
   ·
    have h156 := Y9 h154
    refine Xc rfl rfl rfl h154 ?_
    refine wpo_move (v := .slice a ms.length c) e106 rfl ?_
    refine Xc rfl rfl rfl h154 ?_
    refine wpo_move (v := .int .i64 (k : Int)) e105 rfl ?_
    refine Xc rfl rfl rfl h154 ?_
    refine X2 Qp rfl rfl ha147 ho148 (by omega) (by omega) rfl ?_
    refine Xc rfl rfl rfl h154 ?_
    refine wpo_fieldAddr (o' := o146) X9 rfl rfl rfl ?_
    refine Xc rfl rfl rfl h154 ?_
    refine wpo_load1 (v := .int .i64 ((mAt ms k).t.kind)) X0 rfl ((Yp hr149 hg152) 0 _ rfl) rfl ?_
    refine Xc rfl rfl rfl h154 ?_
    refine wpo_eql (q := decide ((mAt ms k).t.kind = 5)) rfl rfl rfl rfl ?_
    refine Xc rfl rfl rfl h154 ?_
    refine wpo_move (v := .bool (decide ((mAt ms k).t.kind = 5))) rfl rfl ?_
    rcases Xy (decide ((mAt ms k).t.kind = 5)) with h157 | h157
    ·
     have hgt158 := G2 h156 h157
     have h159 := of_decide_eq_true h157
     refine Xc rfl rfl rfl h157 ?_
     refine wpo_move (v := .slice a ms.length c) e106 rfl ?_
     refine Xc rfl rfl rfl h157 ?_
     refine wpo_move (v := .int .i64 (k : Int)) e105 rfl ?_
     refine Xc rfl rfl rfl h157 ?_
     refine X2 Qp rfl rfl ha147 ho148 (by omega) (by omega) rfl ?_
     refine Xc rfl rfl rfl h157 ?_
     refine wpo_fieldAddr (o' := o146 + 7) Jj rfl rfl rfl ?_
     refine Xc rfl rfl rfl h157 ?_
     refine wpo_load1 (v := .int .i64 ((mAt ms k).t.to)) X0 rfl ((Yp hr149 hg152) 7 _ rfl) rfl ?_
     refine Xc rfl rfl rfl h157 ?_
     refine wpo_move (v := .slice a ms.length c) e106 rfl ?_
     refine Xc rfl rfl rfl h157 ?_
     refine wpo_len (by kernel_rfl) rfl rfl ?_
     refine Xc rfl rfl rfl h157 ?_
     refine wpo_gtr (q := decide ((ms.length : Int) < (mAt ms k).t.to)) rfl rfl rfl rfl ?_
     refine Xc rfl rfl rfl h157 ?_
     refine wpo_move (v := .bool (decide ((ms.length : Int) < (mAt ms k).t.to))) rfl rfl ?_
     rcases Xy (decide ((ms.length : Int) < (mAt ms k).t.to)) with h160 | h160
     ·
      have h161 := of_decide_eq_true h160
      iterate 11 refine Xe rfl rfl rfl h160 rfl ?_
      refine Xc rfl rfl rfl h157 ?_
      refine wpo_pickt (v := .bool true) rfl h160 rfl rfl ?_
      refine Xc rfl rfl rfl h154 ?_
      refine wpo_pickt (v := .bool true) rfl h157 rfl rfl ?_
      refine wpo_pickf (v := .bool true) rfl h154 rfl rfl ?_
      exact wpo_nil ⟨⟨e106, e105, (congrArg Value.bool (by first | (simp only [h107, h154, h156, h157, h160, b0, b1, b2, b3, b4, b5, b6, b7, b8, b9]; done) | simp [h107, h154, h156, h157, h160]))⟩, hg152⟩
     ·
      have h162 := of_decide_eq_false h160
      refine Xc rfl rfl rfl h160 ?_
      refine wpo_move (v := .slice a ms.length c) e106 rfl ?_
      refine Xc rfl rfl rfl h160 ?_
      refine wpo_move (v := .slice a ms.length c) e106 rfl ?_
      refine Xc rfl rfl rfl h160 ?_
      refine wpo_move (v := .int .i64 (k : Int)) e105 rfl ?_
      refine Xc rfl rfl rfl h160 ?_
      refine X2 Qp rfl rfl ha147 ho148 (by omega) (by omega) rfl ?_
      refine Xc rfl rfl rfl h160 ?_
      refine wpo_fieldAddr (o' := o146 + 7) Jj rfl rfl rfl ?_
      refine Xc rfl rfl rfl h160 ?_
      refine wpo_load1 (v := .int .i64 ((mAt ms k).t.to)) X0 rfl ((Yp hr149 hg152) 7 _ rfl) rfl ?_
      refine Xc rfl rfl rfl h160 ?_
      refine wpo_sub (c := ((mAt ms k).t.to) - 1) rfl rfl (by omega) (by omega) (by omega) rfl ?_
      refine Xc rfl rfl rfl h160 ?_
      obtain ⟨b165, q166, o167, ha168, ho169, hr170⟩ := SlAt.at (TabAt.low ht hb153).1 (Yh (Xz (show (((mAt ms k).t.to) - 1).toNat < ms.length by omega)))
      have hle171 := TabLen.at hlen (Xz (show (((mAt ms k).t.to) - 1).toNat < ms.length by omega))
      refine X2 Qp rfl rfl ha168 ho169 (by omega) (by omega) rfl ?_
      refine Xc rfl rfl rfl h160 ?_
      refine wpo_fieldAddr (o' := o167) X9 rfl rfl rfl ?_
      refine Xc rfl rfl rfl h160 ?_
      refine wpo_load1 (v := .int .i64 ((mAt ms ((((mAt ms k).t.to) - 1).toNat)).t.kind)) X0 rfl (hr170 0 _ rfl) rfl ?_
      refine Xc rfl rfl rfl h160 ?_
      refine wpo_neq (q := !(decide ((mAt ms ((((mAt ms k).t.to) - 1).toNat)).t.kind = 1))) rfl rfl rfl rfl ?_
      refine Xc rfl rfl rfl h157 ?_
      refine wpo_pickf (v := .bool (!(decide ((mAt ms ((((mAt ms k).t.to) - 1).toNat)).t.kind = 1)))) rfl h160 rfl rfl ?_
      refine Xc rfl rfl rfl h154 ?_
      refine wpo_pickt (v := .bool (!(decide ((mAt ms ((((mAt ms k).t.to) - 1).toNat)).t.kind = 1)))) rfl h157 rfl rfl ?_
      refine wpo_pickf (v := .bool (!(decide ((mAt ms ((((mAt ms k).t.to) - 1).toNat)).t.kind = 1)))) rfl h154 rfl rfl ?_
      exact wpo_nil ⟨⟨e106, e105, (congrArg Value.bool (by first | (simp only [h107, h154, h156, h157, h160, b0, b1, b2, b3, b4, b5, b6, b7, b8, b9]; done) | simp [h107, h154, h156, h157, h160]))⟩, hg152⟩
    ·
     have h172 := of_decide_eq_false h157
     iterate 9 refine Xe rfl rfl rfl h157 rfl ?_
     iterate 11 refine X4 rfl rfl rfl rfl ?_
     refine Xe rfl rfl rfl h157 rfl ?_
     refine Xc rfl rfl rfl h154 ?_
     refine wpo_pickf (v := .bool false) rfl h157 rfl rfl ?_
     refine wpo_pickf (v := .bool false) rfl h154 rfl rfl ?_
     exact wpo_nil ⟨⟨e106, e105, (congrArg Value.bool (by first | (simp only [h107, h154, h156, h157, b0, b1, b2, b3, b4, b5, b6, b7, b8, b9]; done) | simp [h107, h154, h156, h157]))⟩, hg152⟩
  ·
   rintro f173 w174 ⟨⟨e175, e176, e177⟩, hg178⟩
   have hb179 := low0 hb103 hg178
   refine Xq e177 (fun h180 => ?_) (fun h180 => ?_)
   ·
    refine Xa ?_
    refine wpo_assign (v := .bool false) rfl rfl ?_
    refine wpo_nil ?_
    refine Xj ?_
    refine X7 ?_
    refine Qd ?_
    refine X7 ?_
    refine X7 ?_
    refine Qd ?_
    refine X7 ?_
    refine ⟨.bool false, res1 rfl rfl, ?_, hb179⟩
    exact congrArg Value.bool (Cr (by omega) ((Vi rfl).1 h180))
   ·
    have h181 := J5 h180
    have h182 := Y9 h181
    have h183 := J6 h180
    refine Xk ?_
    refine Xn ?_
    refine Xa ?_
    refine wpo_assign (v := .int .i64 0) rfl rfl ?_
    refine wpo_nil ?_
    refine Xv ?_
    refine Ye (fun mm f' w' => ∃ (j : Nat), mm = (mAt ms k).t.slots.length - j ∧ j ≤ (mAt ms k).t.slots.length ∧ (((mAt ms k).t.slots.take j).all (rightTo (tabT ms))) = true ∧ f' 4 = .int .i64 (j : Int) ∧ f' 0 = .slice a ms.length c ∧ f' 3 = .int .i64 (k : Int) ∧ w.grownBy w' none) ((mAt ms k).t.slots.length - 0) ⟨0, rfl, (Nat.zero_le _), rfl, rfl, e175, e176, hb179⟩ ?_
    rintro mm f184 w185 ⟨j, hm187, hj, hrs, e188, e189, e190, hb186⟩
    have hR0 : ∀ j, j < (mAt ms k).t.slots.length → 0 ≤ (rAt (mAt ms k).t.slots j).th ∧ (rAt (mAt ms k).t.slots j).th ≤ 8 := fun j hj => Hx ((Vi rfl).2 h180).1 (Ve hj)
    refine Xi ?_
    refine Xa ?_
    refine wpo_move (v := .int .i64 (j : Int)) e188 rfl ?_
    refine wpo_move (v := .slice a ms.length c) e189 rfl ?_
    refine wpo_move (v := .int .i64 (k : Int)) e190 rfl ?_
    obtain ⟨b193, q194, o195, ha196, ho197, hr198⟩ := SlAt.at (TabAt.low ht hb186).1 (Yh (Xz (show k < ms.length by omega)))
    have hle199 := TabLen.at hlen (Xz (show k < ms.length by omega))
    refine X2 Qp rfl rfl ha196 ho197 (by omega) (by omega) rfl ?_
    refine wpo_fieldAddr (o' := o195 + 5) Y2 rfl rfl rfl ?_
    refine wpo_load1 (v := .slice ((mAt ms k).sa) ((mAt ms k).t.slots.length) ((mAt ms k).sc)) Jc rfl (hr198 5 _ rfl) rfl ?_
    refine wpo_len (by kernel_rfl) rfl rfl ?_
    refine wpo_lss (q := decide ((j : Int) < ((mAt ms k).t.slots.length : Int))) rfl rfl rfl rfl ?_
    refine wpo_nil ?_
    refine Xq rfl (fun h200 => ?_) (fun h200 => ?_)
    ·
     have h201 := of_decide_eq_true h200
     refine Xk ?_
     refine Xn ?_
     refine Xi ?_
     refine Xv ?_
     refine Xa ?_
     refine wpo_move (v := .slice a ms.length c) e189 rfl ?_
     refine wpo_move (v := .int .i64 (k : Int)) e190 rfl ?_
     refine X2 Qp rfl rfl ha196 ho197 (by omega) (by omega) rfl ?_
     refine wpo_fieldAddr (o' := o195 + 5) Y2 rfl rfl rfl ?_
     refine wpo_load1 (v := .slice ((mAt ms k).sa) ((mAt ms k).t.slots.length) ((mAt ms k).sc)) Jc rfl (hr198 5 _ rfl) rfl ?_
     refine wpo_move (v := .int .i64 (j : Int)) e188 rfl ?_
     obtain ⟨b204, q205, o206, ha207, ho208, hr209⟩ := SlAt.at (TabAt.th (TabAt.low ht hb186) (Xz (show k < ms.length by omega))).1 (Yh (Ve (show j < (mAt ms k).t.slots.length by omega)))
     refine X2 We rfl rfl ha207 ho208 (by omega) (by omega) rfl ?_
     refine wpo_loadn (vs := [.int .i64 ((rAt (mAt ms k).t.slots j).th), .int .i64 ((rAt (mAt ms k).t.slots j).ve), .bool ((rAt (mAt ms k).t.slots j).rd), .bool ((rAt (mAt ms k).t.slots j).wr), .bool ((rAt (mAt ms k).t.slots j).wk)]) Y1 rfl rfl (Qa hr209 0 5 rfl) rfl ?_
     refine wpo_alloc (cs := #[.int .i64 0, .int .i64 0, .bool false, .bool false, .bool false]) H1 rfl rfl ?_
     intro B210 w211 hN212
     have hlB210 := X1 hN212 hb186
     have hb213 := low0 hb186 hN212.grw
     refine wpo_storen (vs := [.int .i64 ((rAt (mAt ms k).t.slots j).th), .int .i64 ((rAt (mAt ms k).t.slots j).ve), .bool ((rAt (mAt ms k).t.slots j).rd), .bool ((rAt (mAt ms k).t.slots j).wr), .bool ((rAt (mAt ms k).t.slots j).wk)]) (cs' := #[.int .i64 ((rAt (mAt ms k).t.slots j).th), .int .i64 ((rAt (mAt ms k).t.slots j).ve), .bool ((rAt (mAt ms k).t.slots j).rd), .bool ((rAt (mAt ms k).t.slots j).wr), .bool ((rAt (mAt ms k).t.slots j).wk)]) Y1 rfl rfl rfl (by simp [Value.oneCell']) hN212.blk (Nat.le_of_ble_eq_true rfl) rfl ?_
     intro w214 hS215
     have hb216 := low1 hb213 hS215.grw (by omega)
     refine wpo_nil ?_
     refine Kl (fun f' w' => (f' 0 = .slice a ms.length c ∧ f' 3 = .int .i64 (k : Int) ∧ f' 4 = .int .i64 (j : Int) ∧ f' 88 = .bool ((decide ((ms.length : Int) < (rAt (mAt ms k).t.slots j).th)) || ((decide (0 < (rAt (mAt ms k).t.slots j).th)) && (decide ((mAt ms ((((rAt (mAt ms k).t.slots j).th) - 1).toNat)).t.ve < (rAt (mAt ms k).t.slots j).ve))))) ∧ w214.grownBy w' none) ?_ ?_
     ·
      rcases Xy (decide ((ms.length : Int) < (rAt (mAt ms k).t.slots j).th)) with h226 | h226
      ·
       have h227 := of_decide_eq_true h226
       refine Qh (m := 19) (vals := [(67, .pointer (some ⟨B210, 0, none⟩)), (68, .int .i64 ((rAt (mAt ms k).t.slots j).th)), (69, .slice a ms.length c), (70, .int .i64 (ms.length : Int)), (71, .bool (decide ((ms.length : Int) < (rAt (mAt ms k).t.slots j).th))), (72, .bool (decide ((ms.length : Int) < (rAt (mAt ms k).t.slots j).th))), (73, undef), (74, undef), (75, undef), (76, undef), (77, undef), (78, undef), (79, undef), (80, undef), (81, undef), (82, undef), (83, undef), (84, undef), (85, undef)]) (fun w' => w214.grownBy w' none) Qq (by kernel_rfl) (X5 _) ?_ ?_
       ·
        refine Xd rfl (fun w228 hi229 => ?_) ?_
        ·
         have hb230 := low0 hb216 hi229
         refine wpo_fieldAddr (o' := 0) Qx rfl rfl rfl ?_
         exact wpo_nil ⟨rfl, hi229⟩
        refine Xd rfl (fun w231 hi232 => ?_) ?_
        ·
         have hb233 := low0 hb216 hi232
         have k234 := (hS215.blk.grown0 hi232)
         refine wpo_load1 (v := .int .i64 ((rAt (mAt ms k).t.slots j).th)) X0 rfl (k234.cell rfl) rfl ?_
         exact wpo_nil ⟨rfl, hi232⟩
        refine Xd rfl (fun w235 hi236 => ?_) ?_
        ·
         have hb237 := low0 hb216 hi236
         refine wpo_move (v := .slice a ms.length c) e189 rfl ?_
         exact wpo_nil ⟨rfl, hi236⟩
        refine Xd rfl (fun w238 hi239 => ?_) ?_
        ·
         have hb240 := low0 hb216 hi239
         refine wpo_len (by kernel_rfl) rfl rfl ?_
         exact wpo_nil ⟨rfl, hi239⟩
        refine Xd rfl (fun w241 hi242 => ?_) ?_
        ·
         have hb243 := low0 hb216 hi242
         refine wpo_gtr (q := decide ((ms.length : Int) < (rAt (mAt ms k).t.slots j).th)) rfl rfl rfl rfl ?_
         exact wpo_nil ⟨rfl, hi242⟩
        refine Xd rfl (fun w244 hi245 => ?_) ?_
        ·
         have hb246 := low0 hb216 hi245
         refine wpo_move (v := .bool (decide ((ms.length : Int) < (rAt (mAt ms k).t.slots j).th))) rfl rfl ?_
         exact wpo_nil ⟨rfl, hi245⟩
        refine Xd rfl (fun w247 hi248 => ?_) ?_
        ·
         have hb249 := low0 hb216 hi248
         refine Xe rfl rfl rfl h226 rfl ?_
         exact wpo_nil ⟨rfl, hi248⟩
        refine Xd rfl (fun w250 hi251 => ?_) ?_
        ·
         have hb252 := low0 hb216 hi251
         refine Xe rfl rfl rfl h226 rfl ?_
         exact wpo_nil ⟨rfl, hi251⟩
        refine Xd rfl (fun w253 hi254 => ?_) ?_
        ·
         have hb255 := low0 hb216 hi254
         refine Xe rfl rfl rfl h226 rfl ?_
         exact wpo_nil ⟨rfl, hi254⟩
        refine Xd rfl (fun w256 hi257 => ?_) ?_
        ·
         have hb258 := low0 hb216 hi257
         refine Xe rfl rfl rfl h226 rfl ?_
         exact wpo_nil ⟨rfl, hi257⟩
        refine Xd rfl (fun w259 hi260 => ?_) ?_
        ·
         have hb261 := low0 hb216 hi260
         refine X4 rfl rfl rfl rfl ?_
         exact wpo_nil ⟨rfl, hi260⟩
        refine Xd rfl (fun w262 hi263 => ?_) ?_
        ·
         have hb264 := low0 hb216 hi263
         refine X4 rfl rfl rfl rfl ?_
         exact wpo_nil ⟨rfl, hi263⟩
        refine Xd rfl (fun w265 hi266 => ?_) ?_
        ·
         have hb267 := low0 hb216 hi266
         refine X4 rfl rfl rfl rfl ?_
         exact wpo_nil ⟨rfl, hi266⟩
        refine Xd rfl (fun w268 hi269 => ?_) ?_
        ·
         have hb270 := low0 hb216 hi269
         refine X4 rfl rfl rfl rfl ?_
         exact wpo_nil ⟨rfl, hi269⟩
        refine Xd rfl (fun w271 hi272 => ?_) ?_
        ·
         have hb273 := low0 hb216 hi272
         refine X4 rfl rfl rfl rfl ?_
         exact wpo_nil ⟨rfl, hi272⟩
        refine Xd rfl (fun w274 hi275 => ?_) ?_
        ·
         have hb276 := low0 hb216 hi275
         refine X4 rfl rfl rfl rfl ?_
         exact wpo_nil ⟨rfl, hi275⟩
        refine Xd rfl (fun w277 hi278 => ?_) ?_
        ·
         have hb279 := low0 hb216 hi278
         refine X4 rfl rfl rfl rfl ?_
         exact wpo_nil ⟨rfl, hi278⟩
        refine Xd rfl (fun w280 hi281 => ?_) ?_
        ·
         have hb282 := low0 hb216 hi281
         refine X4 rfl rfl rfl rfl ?_
         exact wpo_nil ⟨rfl, hi281⟩
        refine Xd rfl (fun w283 hi284 => ?_) ?_
        ·
         have hb285 := low0 hb216 hi284
         refine X4 rfl rfl rfl rfl ?_
         exact wpo_nil ⟨rfl, hi284⟩
        exact Q0
       ·
        intro w286 hi287
        have hb288 := low0 hb216 hi287
        refine X4 rfl rfl rfl rfl ?_
        refine Xe rfl rfl rfl h226 rfl ?_
        refine wpo_pickt (v := .bool true) rfl h226 rfl rfl ?_
        exact wpo_nil (Xn ⟨⟨e189, e190, e188, (congrArg Value.bool (by first | (simp only [h107, h180, h181, h182, h183, h200, h226, b0, b1, b2, b3, b4, b5, b6, b7, b8, b9]; done) | simp [h107, h180, h181, h182, h183, h200, h226]))⟩, hi287⟩)
      ·
       have h289 := of_decide_eq_false h226
       rcases Xy (decide (0 < (rAt (mAt ms k).t.slots j).th)) with h290 | h290
       ·
        have h291 := of_decide_eq_true h290
        obtain ⟨b303, q304, o305, ha306, ho307, hr308⟩ := SlAt.at (TabAt.low ht hb216).1 (Yh (Xz (show (((rAt (mAt ms k).t.slots j).th) - 1).toNat < ms.length by omega)))
        have hle309 := TabLen.at hlen (Xz (show (((rAt (mAt ms k).t.slots j).th) - 1).toNat < ms.length by omega))
        refine Qh (m := 19) (vals := [(67, .pointer (some ⟨B210, 0, none⟩)), (68, .int .i64 ((rAt (mAt ms k).t.slots j).th)), (69, .slice a ms.length c), (70, .int .i64 (ms.length : Int)), (71, .bool (decide ((ms.length : Int) < (rAt (mAt ms k).t.slots j).th))), (72, .bool (decide ((ms.length : Int) < (rAt (mAt ms k).t.slots j).th))), (73, .pointer (some ⟨B210, 0, none⟩)), (74, .int .i64 ((rAt (mAt ms k).t.slots j).th)), (75, .bool (decide (0 < (rAt (mAt ms k).t.slots j).th))), (76, .bool (decide (0 < (rAt (mAt ms k).t.slots j).th))), (77, .pointer (some ⟨B210, 1, none⟩)), (78, .int .i64 ((rAt (mAt ms k).t.slots j).ve)), (79, .slice a ms.length c), (80, .pointer (some ⟨B210, 0, none⟩)), (81, .int .i64 ((rAt (mAt ms k).t.slots j).th)), (82, .int .i64 (((rAt (mAt ms k).t.slots j).th) - 1)), (83, .pointer (some ⟨b303, o305, none⟩)), (84, .pointer (some ⟨b303, o305 + 3, none⟩)), (85, .int .i64 ((mAt ms ((((rAt (mAt ms k).t.slots j).th) - 1).toNat)).t.ve))]) (fun w' => w214.grownBy w' none) Qq (by kernel_rfl) (X5 _) ?_ ?_
        ·
         refine Xd rfl (fun w310 hi311 => ?_) ?_
         ·
          have hb312 := low0 hb216 hi311
          refine wpo_fieldAddr (o' := 0) Qx rfl rfl rfl ?_
          exact wpo_nil ⟨rfl, hi311⟩
         refine Xd rfl (fun w313 hi314 => ?_) ?_
         ·
          have hb315 := low0 hb216 hi314
          have k316 := (hS215.blk.grown0 hi314)
          refine wpo_load1 (v := .int .i64 ((rAt (mAt ms k).t.slots j).th)) X0 rfl (k316.cell rfl) rfl ?_
          exact wpo_nil ⟨rfl, hi314⟩
         refine Xd rfl (fun w317 hi318 => ?_) ?_
         ·
          have hb319 := low0 hb216 hi318
          refine wpo_move (v := .slice a ms.length c) e189 rfl ?_
          exact wpo_nil ⟨rfl, hi318⟩
         refine Xd rfl (fun w320 hi321 => ?_) ?_
         ·
          have hb322 := low0 hb216 hi321
          refine wpo_len (by kernel_rfl) rfl rfl ?_
          exact wpo_nil ⟨rfl, hi321⟩
         refine Xd rfl (fun w323 hi324 => ?_) ?_
         ·
          have hb325 := low0 hb216 hi324
          refine wpo_gtr (q := decide ((ms.length : Int) < (rAt (mAt ms k).t.slots j).th)) rfl rfl rfl rfl ?_
          exact wpo_nil ⟨rfl, hi324⟩
         refine Xd rfl (fun w326 hi327 => ?_) ?_
         ·
          have hb328 := low0 hb216 hi327
          refine wpo_move (v := .bool (decide ((ms.length : Int) < (rAt (mAt ms k).t.slots j).th))) rfl rfl ?_
          exact wpo_nil ⟨rfl, hi327⟩
         refine Xd rfl (fun w329 hi330 => ?_) ?_
         ·
          have hb331 := low0 hb216 hi330
          refine Xc rfl rfl rfl h226 ?_
          refine wpo_fieldAddr (o' := 0) Qx rfl rfl rfl ?_
          exact wpo_nil ⟨rfl, hi330⟩
         refine Xd rfl (fun w332 hi333 => ?_) ?_
         ·
          have hb334 := low0 hb216 hi333
          refine Xc rfl rfl rfl h226 ?_
          have k335 := (hS215.blk.grown0 hi333)
          refine wpo_load1 (v := .int .i64 ((rAt (mAt ms k).t.slots j).th)) X0 rfl (k335.cell rfl) rfl ?_
          exact wpo_nil ⟨rfl, hi333⟩
         refine Xd rfl (fun w336 hi337 => ?_) ?_
         ·
          have hb338 := low0 hb216 hi337
          refine Xc rfl rfl rfl h226 ?_
          refine wpo_gtr (q := decide (0 < (rAt (mAt ms k).t.slots j).th)) rfl rfl rfl rfl ?_
          exact wpo_nil ⟨rfl, hi337⟩
         refine Xd rfl (fun w339 hi340 => ?_) ?_
         ·
          have hb341 := low0 hb216 hi340
          refine Xc rfl rfl rfl h226 ?_
          refine wpo_move (v := .bool (decide (0 < (rAt (mAt ms k).t.slots j).th))) rfl rfl ?_
          exact wpo_nil ⟨rfl, hi340⟩
         refine Xd rfl (fun w342 hi343 => ?_) ?_
         ·
          have hb344 := low0 hb216 hi343
          refine Xc rfl rfl rfl h290 ?_
          refine wpo_fieldAddr (o' := 1) J8 rfl rfl rfl ?_
          exact wpo_nil ⟨rfl, hi343⟩
         refine Xd rfl (fun w345 hi346 => ?_) ?_
         ·
          have hb347 := low0 hb216 hi346
          refine Xc rfl rfl rfl h290 ?_
          have k348 := (hS215.blk.grown0 hi346)
          refine wpo_load1 (v := .int .i64 ((rAt (mAt ms k).t.slots j).ve)) X0 rfl (k348.cell rfl) rfl ?_
          exact wpo_nil ⟨rfl, hi346⟩
         refine Xd rfl (fun w349 hi350 => ?_) ?_
         ·
          have hb351 := low0 hb216 hi350
          refine Xc rfl rfl rfl h290 ?_
          refine wpo_move (v := .slice a ms.length c) e189 rfl ?_
          exact wpo_nil ⟨rfl, hi350⟩
         refine Xd rfl (fun w352 hi353 => ?_) ?_
         ·
          have hb354 := low0 hb216 hi353
          refine Xc rfl rfl rfl h290 ?_
          refine wpo_fieldAddr (o' := 0) Qx rfl rfl rfl ?_
          exact wpo_nil ⟨rfl, hi353⟩
         refine Xd rfl (fun w355 hi356 => ?_) ?_
         ·
          have hb357 := low0 hb216 hi356
          refine Xc rfl rfl rfl h290 ?_
          have k358 := (hS215.blk.grown0 hi356)
          refine wpo_load1 (v := .int .i64 ((rAt (mAt ms k).t.slots j).th)) X0 rfl (k358.cell rfl) rfl ?_
          exact wpo_nil ⟨rfl, hi356⟩
         refine Xd rfl (fun w359 hi360 => ?_) ?_
         ·
          have hb361 := low0 hb216 hi360
          refine Xc rfl rfl rfl h290 ?_
          refine wpo_sub (c := ((rAt (mAt ms k).t.slots j).th) - 1) rfl rfl (by omega) (by omega) (by omega) rfl ?_
          exact wpo_nil ⟨rfl, hi360⟩
         refine Xd rfl (fun w362 hi363 => ?_) ?_
         ·
          have hb364 := low0 hb216 hi363
          refine Xc rfl rfl rfl h290 ?_
          refine X2 Qp rfl rfl ha306 ho307 (by omega) (by omega) rfl ?_
          exact wpo_nil ⟨rfl, hi363⟩
         refine Xd rfl (fun w365 hi366 => ?_) ?_
         ·
          have hb367 := low0 hb216 hi366
          refine Xc rfl rfl rfl h290 ?_
          refine wpo_fieldAddr (o' := o305 + 3) Qw rfl rfl rfl ?_
          exact wpo_nil ⟨rfl, hi366⟩
         refine Xd rfl (fun w368 hi369 => ?_) ?_
         ·
          have hb370 := low0 hb216 hi369
          refine Xc rfl rfl rfl h290 ?_
          refine wpo_load1 (v := .int .i64 ((mAt ms ((((rAt (mAt ms k).t.slots j).th) - 1).toNat)).t.ve)) X0 rfl ((Yp hr308 hi369) 3 _ rfl) rfl ?_
          exact wpo_nil ⟨rfl, hi369⟩
         exact Q0
        ·
         intro w371 hi372
         have hb373 := low0 hb216 hi372
         refine Xc rfl rfl rfl h290 ?_
         refine wpo_gtr (q := decide ((mAt ms ((((rAt (mAt ms k).t.slots j).th) - 1).toNat)).t.ve < (rAt (mAt ms k).t.slots j).ve)) rfl rfl rfl rfl ?_
         refine Xc rfl rfl rfl h226 ?_
         refine wpo_pickt (v := .bool (decide ((mAt ms ((((rAt (mAt ms k).t.slots j).th) - 1).toNat)).t.ve < (rAt (mAt ms k).t.slots j).ve))) rfl h290 rfl rfl ?_
         refine wpo_pickf (v := .bool (decide ((mAt ms ((((rAt (mAt ms k).t.slots j).th) - 1).toNat)).t.ve < (rAt (mAt ms k).t.slots j).ve))) rfl h226 rfl rfl ?_
         exact wpo_nil (Xn ⟨⟨e189, e190, e188, (congrArg Value.bool (by first | (simp only [h107, h180, h181, h182, h183, h200, h226, h290, b0, b1, b2, b3, b4, b5, b6, b7, b8, b9]; done) | simp [h107, h180, h181, h182, h183, h200, h226, h290]))⟩, hi372⟩)
       ·
        have h374 := of_decide_eq_false h290
        refine Qh (m := 19) (vals := [(67, .pointer (some ⟨B210, 0, none⟩)), (68, .int .i64 ((rAt (mAt ms k).t.slots j).th)), (69, .slice a ms.length c), (70, .int .i64 (ms.length : Int)), (71, .bool (decide ((ms.length : Int) < (rAt (mAt ms k).t.slots j).th))), (72, .bool (decide ((ms.length : Int) < (rAt (mAt ms k).t.slots j).th))), (73, .pointer (some ⟨B210, 0, none⟩)), (74, .int .i64 ((rAt (mAt ms k).t.slots j).th)), (75, .bool (decide (0 < (rAt (mAt ms k).t.slots j).th))), (76, .bool (decide (0 < (rAt (mAt ms k).t.slots j).th))), (77, undef), (78, undef), (79, undef), (80, undef), (81, undef), (82, undef), (83, undef), (84, undef), (85, undef)]) (fun w' => w214.grownBy w' none) Qq (by kernel_rfl) (X5 _) ?_ ?_
        ·
         refine Xd rfl (fun w375 hi376 => ?_) ?_
         ·
          have hb377 := low0 hb216 hi376
          refine wpo_fieldAddr (o' := 0) Qx rfl rfl rfl ?_
          exact wpo_nil ⟨rfl, hi376⟩
         refine Xd rfl (fun w378 hi379 => ?_) ?_
         ·
          have hb380 := low0 hb216 hi379
          have k381 := (hS215.blk.grown0 hi379)
          refine wpo_load1 (v := .int .i64 ((rAt (mAt ms k).t.slots j).th)) X0 rfl (k381.cell rfl) rfl ?_
          exact wpo_nil ⟨rfl, hi379⟩
         refine Xd rfl (fun w382 hi383 => ?_) ?_
         ·
          have hb384 := low0 hb216 hi383
          refine wpo_move (v := .slice a ms.length c) e189 rfl ?_
          exact wpo_nil ⟨rfl, hi383⟩
         refine Xd rfl (fun w385 hi386 => ?_) ?_
         ·
          have hb387 := low0 hb216 hi386
          refine wpo_len (by kernel_rfl) rfl rfl ?_
          exact wpo_nil ⟨rfl, hi386⟩
         refine Xd rfl (fun w388 hi389 => ?_) ?_
         ·
          have hb390 := low0 hb216 hi389
          refine wpo_gtr (q := decide ((ms.length : Int) < (rAt (mAt ms k).t.slots j).th)) rfl rfl rfl rfl ?_
          exact wpo_nil ⟨rfl, hi389⟩
         refine Xd rfl (fun w391 hi392 => ?_) ?_
         ·
          have hb393 := low0 hb216 hi392
          refine wpo_move (v := .bool (decide ((ms.length : Int) < (rAt (mAt ms k).t.slots j).th))) rfl rfl ?_
          exact wpo_nil ⟨rfl, hi392⟩
         refine Xd rfl (fun w394 hi395 => ?_) ?_
         ·
          have hb396 := low0 hb216 hi395
          refine Xc rfl rfl rfl h226 ?_
          refine wpo_fieldAddr (o' := 0) Qx rfl rfl rfl ?_
          exact wpo_nil ⟨rfl, hi395⟩
         refine Xd rfl (fun w397 hi398 => ?_) ?_
         ·
          have hb399 := low0 hb216 hi398
          refine Xc rfl rfl rfl h226 ?_
          have k400 := (hS215.blk.grown0 hi398)
          refine wpo_load1 (v := .int .i64 ((rAt (mAt ms k).t.slots j).th)) X0 rfl (k400.cell rfl) rfl ?_
          exact wpo_nil ⟨rfl, hi398⟩
         refine Xd rfl (fun w401 hi402 => ?_) ?_
         ·
          have hb403 := low0 hb216 hi402
          refine Xc rfl rfl rfl h226 ?_
          refine wpo_gtr (q := decide (0 < (rAt (mAt ms k).t.slots j).th)) rfl rfl rfl rfl ?_
          exact wpo_nil ⟨rfl, hi402⟩
         refine Xd rfl (fun w404 hi405 => ?_) ?_
         ·
          have hb406 := low0 hb216 hi405
          refine Xc rfl rfl rfl h226 ?_
          refine wpo_move (v := .bool (decide (0 < (rAt (mAt ms k).t.slots j).th))) rfl rfl ?_
          exact wpo_nil ⟨rfl, hi405⟩
         refine Xd rfl (fun w407 hi408 => ?_) ?_
         ·
          have hb409 := low0 hb216 hi408
          refine Xe rfl rfl rfl h290 rfl ?_
          exact wpo_nil ⟨rfl, hi408⟩
         refine Xd rfl (fun w410 hi411 => ?_) ?_
         ·
          have hb412 := low0 hb216 hi411
          refine Xe rfl rfl rfl h290 rfl ?_
          exact wpo_nil ⟨rfl, hi411⟩
         refine Xd rfl (fun w413 hi414 => ?_) ?_
         ·
          have hb415 := low0 hb216 hi414
          refine Xe rfl rfl rfl h290 rfl ?_
          exact wpo_nil ⟨rfl, hi414⟩
         refine Xd rfl (fun w416 hi417 => ?_) ?_
         ·
          have hb418 := low0 hb216 hi417
          refine Xe rfl rfl rfl h290 rfl ?_
          exact wpo_nil ⟨rfl, hi417⟩
         refine Xd rfl (fun w419 hi420 => ?_) ?_
         ·
          have hb421 := low0 hb216 hi420
          refine Xe rfl rfl rfl h290 rfl ?_
          exact wpo_nil ⟨rfl, hi420⟩
         refine Xd rfl (fun w422 hi423 => ?_) ?_
         ·
          have hb424 := low0 hb216 hi423
          refine Xe rfl rfl rfl h290 rfl ?_
          exact wpo_nil ⟨rfl, hi423⟩
         refine Xd rfl (fun w425 hi426 => ?_) ?_
         ·
          have hb427 := low0 hb216 hi426
          refine Xe rfl rfl rfl h290 rfl ?_
          exact wpo_nil ⟨rfl, hi426⟩
         refine Xd rfl (fun w428 hi429 => ?_) ?_
         ·
          have hb430 := low0 hb216 hi429
          refine Xe rfl rfl rfl h290 rfl ?_
          exact wpo_nil ⟨rfl, hi429⟩
         refine Xd rfl (fun w431 hi432 => ?_) ?_
         ·
          have hb433 := low0 hb216 hi432
          refine Xe rfl rfl rfl h290 rfl ?_
          exact wpo_nil ⟨rfl, hi432⟩
         exact Q0
        ·
         intro w434 hi435
         have hb436 := low0 hb216 hi435
         refine Xe rfl rfl rfl h290 rfl ?_
         refine Xc rfl rfl rfl h226 ?_
         refine wpo_pickf (v := .bool false) rfl h290 rfl rfl ?_
         refine wpo_pickf (v := .bool false) rfl h226 rfl rfl ?_
         exact wpo_nil (Xn ⟨⟨e189, e190, e188, (congrArg Value.bool (by first | (simp only [h107, h180, h181, h182, h183, h200, h226, h290, b0, b1, b2, b3, b4, b5, b6, b7, b8, b9]; done) | simp [h107, h180, h181, h182, h183, h200, h226, h290]))⟩, hi435⟩)
     ·
      rintro f437 w438 ⟨⟨e439, e440, e441, e442⟩, hg443⟩
      have hb444 := low0 hb216 hg443
      refine Xq e442 (fun h445 => ?_) (fun h445 => ?_)
      ·
       refine Xa ?_
       refine wpo_assign (v := .bool false) rfl rfl ?_
       refine wpo_nil ?_
       refine Xj ?_
       refine Qd ?_
       refine X7 ?_
       refine X7 ?_
       refine Qd ?_
       refine Qd ?_
       refine X7 ?_
       refine X7 ?_
       refine Qd ?_
       refine X7 ?_
       refine ⟨.bool false, res1 rfl rfl, ?_, hb444⟩
       exact congrArg Value.bool (Cr (by omega) (D3 (Ve (by omega)) (Q3 ((Lh (Hx ((Vi rfl).2 h180).1 (Ve (by omega))).1).symm.trans h445))))
      ·
       have h446 := J5 h445
       have h447 := of_decide_eq_false h446
       have h448 := J6 h445
       refine Xk ?_
       refine Yy ?_
       refine Xn ?_
       refine Xl ?_
       refine wpo_move (v := .int .i64 (j : Int)) e441 rfl ?_
       refine wpo_add (c := (j : Int) + 1) rfl rfl (by omega) (by omega) (by omega) rfl ?_
       refine wpo_assign (v := .int .i64 ((j : Int) + 1)) rfl rfl ?_
       refine wpo_nil ?_
       refine Xn ?_
       exact ⟨(mAt ms k).t.slots.length - (j + 1), by omega, (j + 1), rfl, (by omega), (Ja hrs (Ve (by omega)) (Y9 ((Lh (Hx ((Vi rfl).2 h180).1 (Ve (by omega))).1).symm.trans h445))), rfl, e439, e440, hb444⟩
    ·
     have h449 := of_decide_eq_false h200
     refine Yj ?_
     refine Yt ?_
     refine Yt ?_
     refine Jf ?_
     refine Yy ?_
     refine Xn ?_
     refine Xl ?_
     refine wpo_move (v := .int .i64 (k : Int)) e190 rfl ?_
     refine wpo_add (c := (k : Int) + 1) rfl rfl (by omega) (by omega) (by omega) rfl ?_
     refine wpo_assign (v := .int .i64 ((k : Int) + 1)) rfl rfl ?_
     refine wpo_nil ?_
     refine Xn ?_
     exact ⟨ms.length - (k + 1), by omega, (k + 1), rfl, (by omega), (Ja hall (K7 (by omega)) (D4 ((Vi rfl).2 h180).1 ((Vi rfl).2 h180).2 hrs (by omega))), rfl, e189, hb186⟩
 ·
  have h450 := of_decide_eq_false h107
  refine Yj ?_
  refine Yt ?_
  refine Yt ?_
  refine Jf ?_
  refine Xn ?_
  refine Xa ?_
  refine wpo_move (v := .slice a ms.length c) e106 rfl ?_
  refine wpo_len (by kernel_rfl) rfl rfl ?_
  refine Xh (vs := [.int .i64 (ms.length : Int), .int .i64 1, .int .i64 8]) V2 (Xb rfl (Xb rfl (Xb rfl Xg))) rfl (Kz (ms.length : Int) 1 8 _) ?_
  rintro _ w451 ⟨rfl, hg452⟩
  have hb453 := low0 hb103 hg452
  refine wpo_assign (v := .bool (inR (ms.length : Int) 1 8)) rfl rfl ?_
  refine wpo_nil ?_
  refine Xj ?_
  refine ⟨.bool (inR (ms.length : Int) 1 8), res1 rfl rfl, ?_, hb453⟩
  exact congrArg Value.bool (Ea hall (by omega))
end Go.Dw.J
end
section
namespace Go.Dw.J
open Go.Dw Go.RowKit
open Go.Conc (G)
set_option linter.unusedVariables false
set_option linter.unusedSimpArgs false
set_option linter.unusedSectionVars false
section
variable {P : Program}
theorem Uq (l : Nat) : Quiet P (Instr.getLoop l) := fun o h => by
  cases o <;> first
    | exact h.elim
    | exact Or.inl ⟨rfl, trivial⟩
    | exact Or.inr trivial
theorem Ur (l : Nat) (r : Loop) : Quiet P (setObj l (.loop r)) := ⟨⟨trivial, trivial, rfl⟩, trivial⟩
theorem Ma (r : Loop) : Quiet P (newObj (.loop r)) := ⟨trivial, fun _ => trivial⟩
theorem Cg (r : Option (List Deferred)) : Quiet P (newObj (.deferred r)) := ⟨trivial, fun _ => trivial⟩
theorem D1 (l : Nat) (args : Array Value) : Quiet P (Instr.yield l args) := by
  unfold Instr.yield
  refine qb (Uq l) fun r => ?_
  split
  · exact qb (Y8 _) fun _ => qp _
  · exact qp _
theorem L9 (l : Nat) : Quiet P (Instr.beginRound l) := by
  unfold Instr.beginRound
  refine qb (Uq l) fun r => qb (Ur l _) fun _ => ?_
  split <;> first | exact qp _ | exact X6 _
theorem R9 (l : Nat) (j : Option Code) : Quiet P (Instr.endRound l j) := by
  unfold Instr.endRound
  exact qb (Uq l) fun r => qb (Ur l _) fun _ => qp _
theorem Lc (l : Nat) : Quiet P (Instr.endLoop l) := by
  unfold Instr.endLoop
  refine qb (Uq l) fun r => ?_
  split
  · exact qb (X6 _) fun _ => qb (Ur l _) fun _ => qp _
  · exact qb (Ur l _) fun _ => qp _
theorem Ps (fn : FuncId) (tmps : Array Value) (ps : Array Tmp) (assign body : Code) : Quiet P (Instr.enterLoop fn tmps ps assign body none) := by
  unfold Instr.enterLoop
  dsimp only
  exact qb (Cg _) fun _ => qb (qp _) fun _ => qb (Ma _) fun _ => qp _
theorem Hq (D : Nat) : Quiet P (Instr.takeDeferred D) := fun o h => by
  cases o with
  | deferred r =>
    cases r with
    | none => exact Or.inl ⟨rfl, trivial⟩
    | some ds => exact Or.inl ⟨rfl, ⟨trivial, trivial, rfl⟩, trivial⟩
  | cells _ _ _ => exact h.elim
  | _ => exact Or.inr trivial
end
section
variable [Comp] {P : Program}
def YieldAt (P : Program) (l : Nat) (args : Array Value) (W : World) (R : Value → World → Prop) : Prop :=
  ∃ fn tmps assign body, (∀ A1, Ext W A1 → (Instr.yield l args).run P A1 = .ok (.round l fn tmps assign body) A1) ∧ FrameR P (Frame.round l fn tmps assign body .normal) W R
variable {n : Nat} {ops : Array Oper} {K : Fr → World → Prop} {l : List Oper} {f : Fr} {w : World} {o : Oper} {ty : TypeId} {pos : String} {aft : Array Edge} {d : Nat}
theorem Mx {x : Operand} {args : Array Operand} {ats : Array TypeId} {lr : Nat} {vs : List Value} {R : Value → World → Prop} (hx : ev f x = .func (.yield lr) #[] #[]) (ha : args.toList.map (ev f) = vs) (hd : Nat.blt d n = true) (hy : YieldAt P lr vs.toArray w R)
    (h : ∀ v w', R v w' → WpO P n ops K l (up f d v) w') : WpO P n ops K (⟨some d, .call ⟨.value x, args, ats⟩, ty, pos, aft, none⟩ :: l) f w := fun a hfa => by
  obtain ⟨fn, tmps, assign, body, hr, hR⟩ := hy
  have e1 : args.map (ev f) = vs.toArray := by rw [← ha]; apply Array.ext'; simp
  have e2 : execOp (ev f) ⟨some d, .call ⟨.value x, args, ats⟩, ty, pos, aft, none⟩ = (Deferred.ofValue (ev f x) (args.map (ev f)) >>= fun d => invoke d.target d.args) := rfl
  have e3 : execOp (ev f) ⟨some d, .call ⟨.value x, args, ats⟩, ty, pos, aft, none⟩ = Instr.yield lr (#[] ++ vs.toArray) := by
    rw [e2, hx, e1]
    rfl
  have e4 : #[] ++ vs.toArray = vs.toArray := by simp
  rw [e4] at e3
  refine Or.inl ⟨by simp [Region.wanted], Or.inr ⟨R, Uv (by rw [hfa.eval, e3]; exact D1 _ _) (fun A1 hE => ⟨_, by rw [hfa.eval, e3]; exact hr A1 hE, Or.inr ⟨lr, fn, tmps, assign, body, rfl, rfl⟩⟩) hR, fun v A' hRv => ⟨_, hfa.put hd v, h v A' hRv⟩⟩⟩
def SeqStops {α : Type} (P : Program) (g : Nat) (lb : Array Value) (encs : α → Array Value) (Kp : World → World → Prop) (S Sp : List α → Prop) (N : Nat) (w : World) : Prop :=
  ∀ (l : Nat) (J Jx : List α → World → Prop) (W : World), Below w.heap.size w W → AbidesFrom W.heap.size J → AbidesFrom W.heap.size Jx →
    (∀ pre x W1, J pre W1 → pre.length < N → YieldAt P l (encs x) W1 fun v W' => (v = .bool true ∧ J (pre ++ [x]) W' ∧ Kp W1 W') ∨ (v = .bool false ∧ Jx (pre ++ [x]) W')) →
    J [] W → CallsR P g (#[.func (.yield l) #[] #[]] ++ lb) W fun v W' => (∃ xs, S xs ∧ J xs W') ∨ (∃ pre, Sp pre ∧ Jx pre W')
end
def lp (st : LoopState) (pd : Option Code) (fn : FuncId) (tmps : Array Value) (ps : Array Tmp) (assign body : Code) (D : Nat) : Obj := .loop { state := st, pending := pd, fn, tmps, params := ps, assign, body, defers := D }
theorem K0 {W : World} {l j : Nat} {o : Obj} (h : l ≠ j) : (W.putObj l o).heap[j]? = W.heap[j]? := by simp [World.putObj, Array.getElem?_setIfInBounds_ne h]
theorem V7 {W : World} {l : Nat} {o o' : Obj} (h : W.heap[l]? = some o') : (W.putObj l o).heap[l]? = some o := by
  have := (Array.getElem?_eq_some_iff.1 h).1
  simp [World.putObj, this]
theorem Dg {A A1 : World} {l : Nat} {o : Obj} (hE : Ext A A1) (hl : l < A.heap.size) : Ext (A.putObj l o) (norm A (A1.putObj l o)) := by
  obtain ⟨m, h1, h2, h3⟩ := hE
  refine ⟨m, ?_, h2, h3⟩
  show A1.heap.setIfInBounds l o = A.heap.setIfInBounds l o ++ Array.replicate m pz
  rw [h1]
  apply Array.ext'
  simp [List.set_append, hl]
section
variable [Comp] {P : Program} {J : Goroutine → World → Prop}
theorem Closed.turn (hJ : Closed P J) {α : Type} {s : Sem α} {g : Goroutine} {next : α → Goroutine} {A : World} {l : Nat} {o o' : Obj} {x : α} (hr : g.status = .running) (hq : Quiet P s) (hl : A.heap[l]? = some o)
    (hst : ∀ w x w' es, s.runT P w #[] = (.ok x w', es) → ∃ es', stepG P Comp.main g w = .go (next x) w' es' ∧ ∀ e ∈ es', e ∈ es)
    (hrun : ∀ A1 : World, A1.heap[l]? = some o → s.run P A1 = .ok x (A1.putObj l o')) (h : J (next x) (A.putObj l o')) : J g A :=
  hJ.sem hr hq hst fun A1 hE => ⟨x, _, hrun A1 (by rw [hE.get (Array.getElem?_eq_some_iff.1 hl).1]; exact hl), hJ.ext _ _ _ (Dg hE (Array.getElem?_eq_some_iff.1 hl).1) rfl h⟩
theorem Gb {P : Program} {α : Type} {s : Sem α} {w w' : World} {x : α} {es : Array Event} (hh : s.runT P w #[] = (.ok x w', es)) : s.run P w = .ok x w' ∧ s.events P w #[] = es := by
  have e1 := Sem.runT_fst P s w #[]
  rw [hh] at e1
  exact ⟨e1.symm, by unfold Sem.events; rw [hh]⟩
def rb (l : Nat) (fn : FuncId) : Frame := { (default : Frame) with fn := fn, kind := .normal, roundOf := some l }
theorem Cj (l : Nat) (fn : FuncId) (tmps : Array Value) (assign body : Code) : Frame.round l fn tmps assign body .normal = ato (rb l fn) { tmps := tmps, defers := [] } [.code assign, .beginRound, .code body] := rfl
theorem Sg {l : Nat} {fn : FuncId} {tmps rt : Array Value} {ps : Array Tmp} {assign body : Code} {D : Nat} {n : Nat} {f0 : Fr} {W : World} {Mid : Fr → World → Prop} {R : Value → World → Prop}
    (hf0 : FEq n { tmps := tmps, defers := [] } f0)
    (ha : Wpf P n (fun e f' W' => e = .normal ∧ W'.heap[l]? = some (lp .ready none fn rt ps assign body D) ∧ Mid f' (W'.putObj l (lp .busy none fn rt ps assign body D))) assign f0 W)
    (hb : ∀ f1 W1, Mid f1 W1 → Wpf P n (fun e f' W' => (e = .normal ∧ W'.heap[l]? = some (lp .busy none fn rt ps assign body D) ∧ R (.bool true) (W'.putObj l (lp .ready none fn rt ps assign body D))) ∨
      (e = .ret ∧ W'.heap[l]? = some (lp .busy none fn rt ps assign body D) ∧ R (.bool false) (W'.putObj l (lp .done (some .ret) fn rt ps assign body D)))) body f1 W1) :
    FrameR P (Frame.round l fn tmps assign body .normal) W R := fun J hJ c cs hk => by
  have hend : ∀ (a' : Act) (todo : List Item) (jump : Option Code) (W' : World) (o' : Obj), (todo = [] ∧ jump = none ∨ (∃ k, todo = .code .ret :: k) ∧ jump = some .ret) → W'.heap[l]? = some (lp .busy none fn rt ps assign body D) →
      o' = lp (if jump.isNone then .ready else .done) jump fn rt ps assign body D → R (.bool jump.isNone) (W'.putObj l o') → J (G (ato (rb l fn) a' todo) (c :: cs)) W' := fun a' todo jump W' o' htodo hl ho' hR => by
    subst ho'
    refine hJ.turn (s := Instr.endRound l jump) (next := fun v => G (c.finish v) cs) (x := .bool jump.isNone) rfl (R9 l jump) hl (fun w x w' es hh => ⟨seen P fn es, ?_, fun e he => Go.Conc.mem_seen he⟩) (fun A1 h1 => run_endRound jump h1) (hk _ _ hR)
    obtain ⟨e1, e2⟩ := Gb hh
    rcases htodo with ⟨rfl, rfl⟩ | ⟨⟨k, rfl⟩, rfl⟩ <;> simp [G, stepG, stepG.exec, ato, rb, doReturn, e1, e2, GStep.after]
  rw [Cj]
  refine ha J hJ (rb l fn) (by simp [rb]) _ _ _ hf0 fun e a1 f1 W1 hf1 hQ => ?_
  obtain ⟨rfl, hl1, hm⟩ := hQ
  show J (G (ato (rb l fn) a1 [.beginRound, .code body]) (c :: cs)) W1
  refine hJ.turn (s := Instr.beginRound l) (next := fun _ => G (ato (rb l fn) a1 [.code body]) (c :: cs)) (x := ()) rfl (L9 l) hl1 (fun w x w' es hh => ⟨seen P fn es, ?_, fun e he => Go.Conc.mem_seen he⟩) (fun A1 h1 => run_beginRound h1 rfl) ?_
  · obtain ⟨e1, e2⟩ := Gb hh
    simp [G, stepG, stepG.exec, stepG.apply, ato, rb, Frame.finish, e1, e2, GStep.after]
  · refine hb f1 _ hm J hJ (rb l fn) (by simp [rb]) [] (c :: cs) a1 hf1 fun e a2 f2 W2 hf2 hQ => ?_
    rcases hQ with ⟨rfl, hl2, hR⟩ | ⟨rfl, hl2, hR⟩
    · exact hend a2 [] none W2 _ (Or.inl ⟨rfl, rfl⟩) hl2 rfl hR
    · exact fun k => hend a2 _ (some .ret) W2 _ (Or.inr ⟨⟨k, rfl⟩, rfl⟩) hl2 rfl hR
def AbidesN {β : Type} (B : Nat) (J : β → World → Prop) : Prop :=
  ∀ s A A' row, J s A → A.grownBy A' row → (∀ r, row = some r → B ≤ r ∧ ∃ o : Obj, A.heap[r]? = some o ∧ o.isCells = false) → J s A'
theorem Su {o : Obj} (h : o.isWalk = true) : o.isCells = false := by cases o <;> first | rfl | cases h
def KeepH (lo : Nat) (W W' : World) : Prop := ∀ j, lo ≤ j → j < W.heap.size → W'.heap[j]? = W.heap[j]?
theorem Px {P : Program} {k : FuncId} (h : goFn P k = true) (args : Array Value) (w : World) (es : Array Event) : (callFunc k args).runT P w es = (.ok (.enter k args) w, es) := by
  unfold goFn at h
  split at h
  · rename_i fn hf
    simp only [Bool.and_eq_true, Bool.not_eq_true'] at h
    obtain ⟨hb, hn⟩ := h
    have hb' : fn.body.isNone = false := by cases hh : fn.body <;> simp_all
    show Sem.runT P (match P.funcs[k]? with | none => _ | some fn => _) w es = _
    rw [hf]
    simp only [hn, hb', Bool.false_eq_true, if_false]
    rfl
  · cases h
theorem Me (hJ : Closed P J) {α : Type} {b : Frame} (hbk : b.kind ≠ .early) (hro : b.roundOf = none) {k : List Item} {cs : List Frame} {tm : Array Value} {fo : Operand} {xslot : Nat} {assign body : Code} {g : FuncId} {lb : Array Value} {encs : α → Value} {S Sp : List α → Prop} {N n : Nat} {w0 w : World} {fT : Fr}
    (ha : FEq n { tmps := tm, defers := [] } fT) (hf : ev fT fo = .func (.func g) #[] lb) (hgo : goFn P g = true) (hxs : Nat.blt xslot n = true)
    (hseq : SeqStops P g lb (fun x => #[encs x]) (Below w0.heap.size) S Sp N w0) (h0 : Below w0.heap.size w0 w) (h0s : w0.heap.size ≤ w.heap.size)
    (I Ix : List α → World → Prop) (hI : AbidesN w.heap.size I) (hIx : AbidesN w.heap.size Ix) (hi0 : I [] w)
    (M : α → Fr → World → Prop) (hM : ∀ f, AbidesN w.heap.size (fun x => M x f))
    (hassign : ∀ pre x W, w.heap.size ≤ W.heap.size → I pre W → Wpf P n (fun e f' W' => e = .normal ∧ W.grownBy W' none ∧ M x f' W') assign (up fT xslot (encs x)) W)
    (hbody : ∀ pre x f' W, w.heap.size ≤ W.heap.size → I pre W → M x f' W → pre.length < N → Wpf P n (fun e f'' W' => (e = .normal ∧ KeepH w.heap.size W W' ∧ Below w0.heap.size W W' ∧ I (pre ++ [x]) W') ∨ (e = .ret ∧ KeepH w.heap.size W W' ∧ W.heap.size ≤ W'.heap.size ∧ Ix (pre ++ [x]) W')) body f' W)
    (hdone : ∀ D xs W, w.heap.size ≤ D → S xs → I xs W → W.heap[D]? = some (.deferred (some [])) → J (G (ato b { tmps := tm, defers := [{ target := .collected D, args := #[] }] } k) cs) W)
    (hstop : ∀ D pre W, w.heap.size ≤ D → Sp pre → Ix pre W → W.heap[D]? = some (.deferred (some [])) → J (G (ato b { tmps := tm, defers := [{ target := .collected D, args := #[] }] } (.code .ret :: k)) cs) W) :
    J (G (ato b { tmps := tm, defers := [] } (.code (.rangeFunc fo #[xslot] assign body) :: k)) cs) w := by
  refine hJ.sem (s := Instr.enterLoop b.fn tm #[xslot] assign body none) (next := fun x => G (Frame.enter P g (#[.func (.yield x.1) #[] #[]] ++ lb) .normal) (ato b { tmps := tm, defers := x.2 } (.inRangeFunc x.1 :: k) :: cs)) rfl (Ps _ _ _ _ _) (fun w1 x w' es hh => ?_) fun A1 hE => ?_
  · have hev : ∀ fr : Frame, fr.tmps = tm → fr.eval fo = .func (.func g) #[] lb := fun fr htm => by
      rw [← hf, ← ha.eval]
      cases fo <;> simp [Frame.eval, Act.eval, htm]
    have hres : ∀ (fr : Frame) (l : Nat), fr.tmps = tm → resolve fr.eval { callee := .value fo, args := #[.const (.func (.yield l) #[] #[])], argTypes := #[] } 0 = (pure { target := .fn (.func g) lb, args := #[.func (.yield l) #[] #[]] } : Sem Deferred) := fun fr l htm => by
      have e : resolve fr.eval { callee := .value fo, args := #[.const (.func (.yield l) #[] #[])], argTypes := #[] } 0 = Deferred.ofValue (fr.eval fo) (#[Operand.const (.func (.yield l) #[] #[])].map fr.eval) := rfl
      have e2 : #[Operand.const (.func (.yield l) #[] #[])].map fr.eval = #[.func (.yield l) #[] #[]] := by simp [Frame.eval]
      rw [e, e2, hev fr htm]
      rfl
    have hev2 : ∀ (args : Array Value) (w : World), (callFunc g args).events P w #[] = #[] := fun args w => by unfold Sem.events; rw [Px hgo]
    obtain ⟨e1, e2⟩ := Gb hh
    refine ⟨seen P b.fn es ++ seen P b.fn #[], ?_, fun e he => ?_⟩
    · obtain ⟨l, mark⟩ := x
      have hk' : (b.kind == CallKind.early) = false := by simpa using hbk
      simp [G, stepG, stepG.exec, stepG.apply, ato, hro, e1, e2, hres, invoke, U3 hgo, hev2, GStep.after, hk']
    · rw [Go.Conc.seen_none, Array.append_empty] at he
      exact Go.Conc.mem_seen he
  · have key : ∀ (W0 : World) (D : Nat), w.heap.size ≤ D → w.grownBy W0 none → D + 1 < W0.heap.size → W0.heap[D + 1]? = some (lp .ready none b.fn tm #[xslot] assign body D) → W0.heap[D]? = some (.deferred (some [])) →
        J (G (Frame.enter P g (#[.func (.yield (D + 1)) #[] #[]] ++ lb) .normal) (ato b { tmps := tm, defers := [{ target := .collected D, args := #[] }] } (.inRangeFunc (D + 1) :: k) :: cs)) W0 := by
      intro W0 D hD hg0 hs0 hl0 hd0
      have hput : ∀ (W' : World) (o o' : Obj), W'.heap[D + 1]? = some o → o.isCells = false → W'.grownBy (W'.putObj (D + 1) o') (some (D + 1)) ∧ ∀ r, some (D + 1) = some r → w.heap.size ≤ r ∧ ∃ o : Obj, W'.heap[r]? = some o ∧ o.isCells = false := fun W' o o' ho hc =>
        ⟨grownBy_putObj' _ _ _, fun r e => by cases e; exact ⟨by omega, o, ho, hc⟩⟩
      have hab : ∀ {β : Type} (Q : β → World → Prop), AbidesN w.heap.size Q → ∀ st pd, AbidesFrom W0.heap.size (fun pre W => Q pre W ∧ w.heap.size ≤ W.heap.size ∧ W.heap[D + 1]? = some (lp st pd b.fn tm #[xslot] assign body D) ∧ W.heap[D]? = some (.deferred (some []))) := fun Q hQ st pd s A A' row ⟨h1, h2, h3, h4⟩ hg hr => by
        have hne : ∀ j, j ≤ D + 1 → some j ≠ row := fun j hj e => by have := (hr j e.symm).1; omega
        exact ⟨hQ _ _ _ _ h1 hg (fun r e => ⟨Nat.le_trans (by omega : w.heap.size ≤ W0.heap.size) (hr r e).1, let ⟨o, ho, hw⟩ := (hr r e).2; ⟨o, ho, Su hw⟩⟩), Nat.le_trans h2 hg.size,
          (hg.block _ (Array.getElem?_eq_some_iff.1 h3).1 (hne _ (Nat.le_refl _))).trans h3, (hg.block _ (Array.getElem?_eq_some_iff.1 h4).1 (hne _ (by omega))).trans h4⟩
      refine hseq (D + 1) (fun pre W => I pre W ∧ w.heap.size ≤ W.heap.size ∧ W.heap[D + 1]? = some (lp .ready none b.fn tm #[xslot] assign body D) ∧ W.heap[D]? = some (.deferred (some [])))
        (fun pre W => Ix pre W ∧ w.heap.size ≤ W.heap.size ∧ W.heap[D + 1]? = some (lp .done (some .ret) b.fn tm #[xslot] assign body D) ∧ W.heap[D]? = some (.deferred (some []))) W0 (h0.grown hg0 h0s (by simp)) (hab I hI _ _) (hab Ix hIx _ _) ?_ ⟨hI _ _ _ none hi0 hg0 (by simp), hg0.size, hl0, hd0⟩ J hJ _ cs ?_
      · rintro pre x W1 ⟨h1, h2, h3, h4⟩ hlen
        have hl1 := (Array.getElem?_eq_some_iff.1 h3).1
        have hl2 := (Array.getElem?_eq_some_iff.1 h4).1
        refine ⟨b.fn, tm.setIfInBounds xslot (encs x), assign, body, fun A1 hE1 => ?_, ?_⟩
        · have := run_yield (P := P) (args := #[encs x]) (w := A1) (l := D + 1) (r := { state := .ready, pending := none, fn := b.fn, tmps := tm, params := #[xslot], assign, body, defers := D }) (by rw [hE1.get hl1]; exact h3) rfl
          simpa using this
        · refine Sg (n := n) (f0 := up fT xslot (encs x)) (D := D) (rt := tm) (ps := #[xslot])
            (Mid := fun f' W' => M x f' W' ∧ I pre W' ∧ w.heap.size ≤ W'.heap.size ∧ W'.heap[D + 1]? = some (lp .busy none b.fn tm #[xslot] assign body D) ∧ W'.heap[D]? = some (.deferred (some [])) ∧ Below w0.heap.size W1 W')
            (by have hp := ha.put (d := xslot) hxs (encs x); simpa [Act.put] using hp) ((hassign pre x W1 h2 h1).mono ?_) (fun f1 W2 hm => (hbody pre x f1 W2 hm.2.2.1 hm.2.1 hm.1 hlen).mono ?_)
          · rintro e f' W' ⟨rfl, hg, hm⟩
            have hl' := (hg.block _ hl1 (by simp)).trans h3
            obtain ⟨hp, hc⟩ := hput W' _ (lp .busy none b.fn tm #[xslot] assign body D) hl' rfl
            have hb1 : Below w0.heap.size W1 W' := (Below.refl _ _).grown hg (Nat.le_trans h0s h2) (by simp)
            exact ⟨rfl, hl', hM f' _ _ _ _ hm hp hc, hI _ _ _ _ (hI _ _ _ none h1 hg (by simp)) hp hc, by rw [World.putObj_size]; exact Nat.le_trans h2 hg.size, V7 hl', (K0 (by omega)).trans ((hg.block _ hl2 (by simp)).trans h4),
              hb1.grown hp (Nat.le_trans h0s (Nat.le_trans h2 hg.size)) (fun j e => by cases e; omega)⟩
          · obtain ⟨hm1, hm2, hm3, hm4, hm5, hm6⟩ := hm
            rintro e f' W3 (⟨rfl, hk, hb3, hi3⟩ | ⟨rfl, hk, hsz, hx3⟩)
            · have hl3 := (hk (D + 1) (by omega) (Array.getElem?_eq_some_iff.1 hm4).1).trans hm4
              obtain ⟨hp, hc⟩ := hput W3 _ (lp .ready none b.fn tm #[xslot] assign body D) hl3 rfl
              exact Or.inl ⟨rfl, hl3, Or.inl ⟨rfl, ⟨hI _ _ _ _ hi3 hp hc, by rw [World.putObj_size]; exact Nat.le_trans hm3 hb3.size, V7 hl3, (K0 (by omega)).trans ((hk D hD (Array.getElem?_eq_some_iff.1 hm5).1).trans hm5)⟩,
                (hm6.trans hb3).grown hp (Nat.le_trans h0s (Nat.le_trans hm3 hb3.size)) (fun j e => by cases e; omega)⟩⟩
            · have hl3 := (hk (D + 1) (by omega) (Array.getElem?_eq_some_iff.1 hm4).1).trans hm4
              obtain ⟨hp, hc⟩ := hput W3 _ (lp .done (some .ret) b.fn tm #[xslot] assign body D) hl3 rfl
              exact Or.inr ⟨rfl, hl3, Or.inr ⟨rfl, hIx _ _ _ _ hx3 hp hc, by rw [World.putObj_size]; exact Nat.le_trans hm3 hsz, V7 hl3, (K0 (by omega)).trans ((hk D hD (Array.getElem?_eq_some_iff.1 hm5).1).trans hm5)⟩⟩
      · intro v A' h
        show J (G (ato b { tmps := tm, defers := [{ target := .collected D, args := #[] }] } (.endRangeFunc (D + 1) :: k)) cs) A'
        have hst : ∀ (w1 : World) (x : Option Code) (w' : World) (es : Array Event), (Instr.endLoop (D + 1)).runT P w1 #[] = (.ok x w', es) → ∃ es', stepG P Comp.main (G (ato b { tmps := tm, defers := [{ target := .collected D, args := #[] }] } (.endRangeFunc (D + 1) :: k)) cs) w1 =
            .go (G (ato b { tmps := tm, defers := [{ target := .collected D, args := #[] }] } ((x.map Item.code).toList ++ k)) cs) w' es' ∧ ∀ e ∈ es', e ∈ es := fun w1 x w' es hh => ⟨seen P b.fn es, by
          obtain ⟨e1, e2⟩ := Gb hh
          simp [G, stepG, stepG.exec, ato, e1, e2, GStep.after], fun e he => Go.Conc.mem_seen he⟩
        rcases h with ⟨xs, hS, h1, h2, h3, h4⟩ | ⟨pre, hSp, h1, h2, h3, h4⟩
        · obtain ⟨hp, hc⟩ := hput A' _ (lp .exhausted none b.fn tm #[xslot] assign body D) h3 rfl
          exact hJ.turn (x := none) rfl (Lc _) h3 hst (fun A1 h => run_endLoop h (by simp)) (hdone D xs _ hD hS (hI _ _ _ _ h1 hp hc) ((K0 (by omega)).trans h4))
        · obtain ⟨hp, hc⟩ := hput A' _ (lp .exhausted (some .ret) b.fn tm #[xslot] assign body D) h3 rfl
          exact hJ.turn (x := some Code.ret) rfl (Lc _) h3 hst (fun A1 h => run_endLoop h (by simp)) (hstop D pre _ hD hSp (hIx _ _ _ _ h1 hp hc) ((K0 (by omega)).trans h4))
    refine ⟨_, _, run_enterLoop_outer _ _ _ _ _, ?_⟩
    have hg : A1.grownBy ((A1.alloc (.deferred (some []))).alloc (lp .ready none b.fn tm #[xslot] assign body A1.heap.size)) none := Xf (World.grownBy_alloc _ _ _) (World.grownBy_alloc _ _ _)
    refine key _ A1.heap.size hE.size (hE.grow hg) ?_ ?_ ?_
    · show A1.heap.size + 1 < ((A1.heap.push _).push _).size
      simp
    · have h := World.alloc_heap_new (A1.alloc (.deferred (some []))) (lp .ready none b.fn tm #[xslot] assign body A1.heap.size)
      rw [World.size_alloc] at h
      exact h
    · show ((A1.heap.push _).push _)[A1.heap.size]? = _
      rw [Array.getElem?_push_lt (by simp)]
      simp
theorem Rz {lo : Nat} {W W' : World} (hg : W.grownBy W' none) : KeepH lo W W' := fun j _ h2 => hg.block j h2 (by simp)
theorem R0 {lo B : Nat} {W W' : World} (hg : W.grownBy W' (some B)) (hB : B < lo) : KeepH lo W W' := fun j h1 h2 => hg.block j h2 (fun e => by cases e; omega)
structure EndJ (P : Program) (fn : Func) (R : Value → World → Prop) (J : Goroutine → World → Prop) (b : Frame) (cs : List Frame) : Prop where
  closed : Closed P J
  fnd : P.funcs[b.fn]? = some fn
  kind : b.kind = .normal
  ro : b.roundOf = none
  df : b.defers = []
  back : ∃ c cs0, cs = c :: cs0 ∧ ∀ v A', R v A' → J (G (c.finish v) cs0) A'
variable {fn : Func} {R : Value → World → Prop} {b : Frame} {cs : List Frame} {n : Nat}
theorem EndJ.early (h : EndJ P fn R J b cs) : b.kind ≠ .early := by rw [h.kind]; simp
theorem EndJ.fin (h : EndJ P fn R J b cs) {a : Act} {f : Fr} {A : World} (ha : FEq n a f) (hR : ∃ v, resV P fn f A v ∧ R v A) (k : List Item) : J (G (ato b a (.code .ret :: k)) cs) A := by
  obtain ⟨c, cs0, rfl, hk⟩ := h.back
  obtain ⟨v, hv, hR⟩ := hR
  exact h.closed.move rfl (fun w => Vj h.ro) (h.closed.leave h.kind h.df ha.defers h.fnd (fun A1 hE => hv A1 hE _ ha.at_) (hk v A hR) _)
theorem EndJ.finD (h : EndJ P fn R J b cs) {tm : Array Value} {f : Fr} {A : World} {D : Nat} (ha : FEq n { tmps := tm, defers := [] } f) (hD : A.heap[D]? = some (.deferred (some [])))
    (hR : ∃ v, resV P fn f (A.putObj D (.deferred none)) v ∧ R v (A.putObj D (.deferred none))) (k : List Item) : J (G (ato b { tmps := tm, defers := [{ target := .collected D, args := #[] }] } (.code .ret :: k)) cs) A := by
  obtain ⟨c, cs0, rfl, hk⟩ := h.back
  obtain ⟨v, hv, hR⟩ := hR
  refine h.closed.move rfl (fun w => Vj h.ro) (h.closed.turn (s := Instr.takeDeferred D) (next := fun calls => G { ato b { tmps := tm, defers := calls } (.code .ret :: k) with mode := .returning } (c :: cs0)) (x := []) rfl (Hq D) hD
    (fun w x w' es hh => ⟨seen P b.fn es, ?_, fun e he => Go.Conc.mem_seen he⟩) (fun A1 h1 => run_takeDeferred h1) (h.closed.leave h.kind h.df rfl h.fnd (fun A1 hE => hv A1 hE _ ha.at_) (hk v _ hR) _))
  obtain ⟨e1, e2⟩ := Gb hh
  simp [G, stepG, unwind, ato, h.df, e1, e2, GStep.after]
def WpA [Comp] (P : Program) (n : Nat) (J : Goroutine → World → Prop) (b : Frame) (cs : List Frame) (k : List Item) (c : Code) (f : Fr) (A : World) : Prop := ∀ a, FEq n a f → J (G (ato b a (.code c :: k)) cs) A
theorem W4 (hE : EndJ P fn R J b cs) {k : List Item} {x y : Code} {f : Fr} {A : World} (h : Wpf P n (thn (WpA P n J b cs k y) (endQ P fn R)) x f A) : WpA P n J b cs k (.seq x y) f A := fun a ha => by
  refine hE.closed.move rfl (fun w => stepG_seq) (h J hE.closed b hE.early (.code y :: k) cs a ha fun e a' f' A' hf hQ => ?_)
  cases e with
  | normal => exact hQ a' hf
  | ret => exact fun k2 => hE.fin hf hQ k2
  | exit i => exact hQ.elim
  | goto l => exact hQ.elim
  | panic c => exact hQ.elim
  | outgrown => exact hQ.elim
theorem K9 (hE : EndJ P fn R J b cs) {k : List Item} {id : Nat} {l : List Oper} {y : Code} {f : Fr} {A : World} (h : WpO P n l.toArray (WpA P n J b cs k y) l f A) : WpA P n J b cs k (.seq (.region id l.toArray false) y) f A := W4 hE (Xl h)
theorem Ri (hE : EndJ P fn R J b cs) {k : List Item} {x y : Code} {f : Fr} {A : World} (h : WpA P n J b cs (.code y :: k) x f A) : WpA P n J b cs k (.seq x y) f A := fun a ha => hE.closed.move rfl (fun w => stepG_seq) (h a ha)
theorem Tc {k : List Item} {c : Code} {f : Fr} {A : World} (M : Fr → Prop) (h : M f) (hM : ∀ f, M f → WpA P n J b cs k c f A) : WpA P n J b cs k c f A := hM f h
theorem M3 {k : FuncId} {c : Code} {args : Array Value} {A : World} (hf : P.funcs[k]? = some fn) (hb : fn.body = some c) (hn : fn.ntmps = n) (hs : Nat.ble args.size n = true)
    (h : ∀ J b cs, EndJ P fn R J b cs → WpA P n J b cs [] c (f0 args) A) : CallsR P k args A R := fun J hJ cf cs hk => by
  have hs' : args.size ≤ n := by simpa [Nat.ble_eq] using hs
  rw [Go.Conc.enter_at args hf hb, ← G7 (b := Go.Conc.base k) rfl rfl]
  refine h J (Go.Conc.base k) (cf :: cs) ⟨hJ, hf, rfl, rfl, rfl, cf, cs, rfl, hk⟩ _ ⟨rfl, by simp [hn]; omega, fun i => ?_⟩
  simp only [f0, Uk, Array.getD_eq_getD_getElem?, Array.getElem?_toList]
  by_cases hi : i < args.size
  · rw [Array.getElem?_append_left hi]
  · rw [Array.getElem?_append_right (by omega), Array.getElem?_eq_none (by omega : args.size ≤ i)]
    by_cases h2 : i - args.size < fn.ntmps - args.size
    · simp [h2]
    · rw [Array.getElem?_eq_none (by simp; omega)]
theorem Df {f : Fr} {A : World} {v : Value} (hv : resV P fn f A v) (hR : R v A) : endQ P fn R .ret f A := ⟨v, hv, hR⟩
theorem M6 (hE : EndJ P fn R J b cs) {k : List Item} {id : Nat} {a : Act} {fT : Fr} {t B : Nat} {x y : Operand} {T : TypeId} {cs0 cs' : Array Value} {v : Value} {W : World} {ty : TypeId} {pos : String} {aft : Array Edge}
    (he : a.eval = ev fT) (ht : oneTy P t = true) (hx : ev fT x = .pointer (some ⟨B, 0, none⟩)) (hy : ev fT y = v) (h1 : v.oneCell' = true) (hb : Blk W B T cs0) (ho : 0 < cs0.size) (hcs : cs0.setIfInBounds 0 v = cs')
    (h : ∀ W', SetB W W' B T cs' → J (G (ato b a (.code .ret :: k)) cs) W') : J (G (ato b a (.code (.seq (.region id #[⟨none, .store t x y, ty, pos, aft, none⟩] false) .ret) :: k)) cs) W := by
  refine hE.closed.move rfl (fun w => stepG_seq) (hE.closed.move rfl (fun w => stepG_region) ?_)
  show J (G (ato b a (.inRegion #[⟨none, .store t x y, ty, pos, aft, none⟩] [0] :: .code .ret :: k)) cs) W
  refine OpG.run (o := ⟨none, .store t x y, ty, pos, aft, none⟩) (K := fun a' A' => a' = a ∧ SetB W A' B T cs') (Or.inl ⟨by simp [Region.wanted], Or.inl ⟨by rw [he]; exact qu (Ks _ _ _), fun A1 hX => ⟨.skip, undef, A1.setRow B cs', ?_, Or.inr ⟨rfl, rfl⟩, rfl, SetB.of hX (Q2 (hX.blk hb) cs')⟩⟩⟩) hE.closed hE.early rfl fun a' A' ⟨e, hS⟩ => ?_
  · rw [he]
    simp [execOp, hx, hy, U4 ht h1 (hX.blk hb) ho, hcs]
  · subst e
    exact hE.closed.move rfl (fun w => stepG_region_end) (h A' hS)
end
end Go.Dw.J
end
section
namespace Go.Dw.J
open Go.RowKit Go.Dw Go.Proofs
set_option linter.unusedSectionVars false
set_option maxRecDepth 100000
set_option maxHeartbeats 4000000
set_option linter.unusedSimpArgs false
set_option linter.unusedVariables false
theorem Fe : goFn Try.prog 111 = true := by kernel_rfl
theorem I0 : goFn Try.prog 71 = true := by kernel_rfl
theorem I1 : goFn Try.prog 72 = true := by kernel_rfl
theorem Kn : oneTy Try.prog 23 = true := by kernel_rfl
theorem Ov : zeroTy Try.prog 4 = some (.bool false) := by kernel_rfl
theorem Ny [Comp] (w : World) (ms : List MTh) (a : Option Addr) (c : Nat) : CallsR Try.prog 72 #[.slice a ms.length c] w (fun v w' => ∃ B : Nat, v = .func (.func 111) #[] #[.pointer (some ⟨B, 0, none⟩)] ∧ w.heap.size ≤ B ∧ Blk w' B 23 #[.slice a ms.length c] ∧ w.grownBy w' none) := by
 refine Xp (n := 4) Try.func72 rfl Try.ntmps72 rfl ?_
 have hb0 := World.grownBy.refl w none
 refine Xa ?_
 refine wpo_box (v := .slice a ms.length c) (cs := #[.slice a ms.length c]) rfl rfl rfl ?_
 intro B101 w102 hN103
 have hlB101 := X1 hN103 hb0
 have hb104 := low0 hb0 hN103.grw
 refine wpo_assign (v := .nilFunc) rfl rfl ?_
 refine wpo_nil ?_
 refine Xa ?_
 refine wpo_makeFunc (vs := [.pointer (some ⟨B101, 0, none⟩)]) (Xb rfl Xg) rfl ?_
 refine wpo_assign (v := .func (.func 111) #[] #[.pointer (some ⟨B101, 0, none⟩)]) rfl rfl ?_
 refine wpo_nil ?_
 refine Xj ?_
 refine ⟨.func (.func 111) #[] #[.pointer (some ⟨B101, 0, none⟩)], res1 rfl rfl, B101, rfl, hlB101, hN103.blk, hb104⟩
theorem Nf [Comp] (w : World) (B : Nat) (ms : List MTh) (a : Option Addr) (c : Nat) (ht : TabAt w a ms) (hlen : TabLen ms) (hn : ms.length ≤ 1048576) (hB : Blk w B 23 #[.slice a ms.length c]) :
    SeqStops Try.prog 111 #[.pointer (some ⟨B, 0, none⟩)] (fun x : Rt => #[.agg x.cells.toArray]) (Below w.heap.size) (fun xs => xs = allR ms) (fun pre => pre <+: allR ms) (allR ms).length w := by
 intro l J Jx W hW hJ hJx hY h0
 have hb0 := gob hW
 show CallsR Try.prog 111 #[.func (.yield l) #[] #[], .pointer (some ⟨B, 0, none⟩)] W _
 refine Xp (n := 26) (R := fun v w' => (∃ xs, xs = allR ms ∧ J xs w') ∨ (∃ pre, pre <+: allR ms ∧ Jx pre w')) Try.func111 rfl Try.ntmps111 rfl ?_
 refine Xa ?_
 refine wpo_load1 (v := .slice a ms.length c) Kn rfl ((hB.grown0 hb0).cell rfl) rfl ?_
 refine wpo_len (by kernel_rfl) rfl rfl ?_
 refine wpo_move (v := .int .i64 0) rfl rfl ?_
 refine wpo_nil ?_
 refine Xv ?_
 refine Ye (fun mm f' w' => ∃ (k : Nat), mm = ms.length - k ∧ k ≤ ms.length ∧ J (allR (ms.take k)) w' ∧ f' 9 = .int .i64 (k : Int) ∧ f' 0 = .func (.yield l) #[] #[] ∧ f' 7 = .slice a ms.length c ∧ f' 8 = .int .i64 (ms.length : Int) ∧ w.grownBy w' none) (ms.length - 0) ⟨0, rfl, (Nat.zero_le _), h0, rfl, rfl, rfl, rfl, hb0⟩ ?_
 rintro mm f101 w102 ⟨k, hm104, hk, hJk, e105, e106, e107, e108, hb103⟩
 refine Xa ?_
 refine wpo_lss (q := decide ((k : Int) < (ms.length : Int))) e105 e108 rfl rfl ?_
 refine wpo_nil ?_
 refine Xi ?_
 refine Xq rfl (fun h109 => ?_) (fun h109 => ?_)
 ·
  have h110 := of_decide_eq_true h109
  refine Xk ?_
  refine Xn ?_
  refine Xi ?_
  refine Xv ?_
  refine Xa ?_
  obtain ⟨b113, q114, o115, ha116, ho117, hr118⟩ := SlAt.at (TabAt.low ht hb103).1 (Yh (Xz (show k < ms.length by omega)))
  have hle119 := TabLen.at hlen (Xz (show k < ms.length by omega))
  refine X2 Qp e107 e105 ha116 ho117 (by omega) (by omega) rfl ?_
  refine wpo_loadn (vs := [.int .i64 ((mAt ms k).t.kind), .int .i64 ((mAt ms k).t.lab.s), .int .i64 ((mAt ms k).t.lab.v), .int .i64 ((mAt ms k).t.ve), .int .i64 ((mAt ms k).t.num), .slice ((mAt ms k).sa) ((mAt ms k).t.slots.length) ((mAt ms k).sc), .slice ((mAt ms k).qa) ((mAt ms k).t.queue.length) ((mAt ms k).qc), .int .i64 ((mAt ms k).t.to)]) Xx rfl rfl (Qa hr118 0 8 rfl) rfl ?_
  refine wpo_alloc (cs := #[.int .i64 0, .int .i64 0, .int .i64 0, .int .i64 0, .int .i64 0, .slice none 0 0, .slice none 0 0, .int .i64 0]) Q6 rfl rfl ?_
  intro B120 w121 hN122
  have hlB120 := X1 hN122 hb103
  have hb123 := low0 hb103 hN122.grw
  refine wpo_storen (vs := [.int .i64 ((mAt ms k).t.kind), .int .i64 ((mAt ms k).t.lab.s), .int .i64 ((mAt ms k).t.lab.v), .int .i64 ((mAt ms k).t.ve), .int .i64 ((mAt ms k).t.num), .slice ((mAt ms k).sa) ((mAt ms k).t.slots.length) ((mAt ms k).sc), .slice ((mAt ms k).qa) ((mAt ms k).t.queue.length) ((mAt ms k).qc), .int .i64 ((mAt ms k).t.to)]) (cs' := #[.int .i64 ((mAt ms k).t.kind), .int .i64 ((mAt ms k).t.lab.s), .int .i64 ((mAt ms k).t.lab.v), .int .i64 ((mAt ms k).t.ve), .int .i64 ((mAt ms k).t.num), .slice ((mAt ms k).sa) ((mAt ms k).t.slots.length) ((mAt ms k).sc), .slice ((mAt ms k).qa) ((mAt ms k).t.queue.length) ((mAt ms k).qc), .int .i64 ((mAt ms k).t.to)]) Xx rfl rfl rfl (by simp [Value.oneCell']) hN122.blk (Nat.le_of_ble_eq_true rfl) rfl ?_
  intro w124 hS125
  have hb126 := low1 hb123 hS125.grw (by omega)
  refine wpo_nil ?_
  refine Xa ?_
  refine wpo_fieldAddr (o' := 5) Y2 rfl rfl rfl ?_
  refine wpo_load1 (v := .slice ((mAt ms k).sa) ((mAt ms k).t.slots.length) ((mAt ms k).sc)) Jc rfl (hS125.blk.cell rfl) rfl ?_
  refine wpo_len (by kernel_rfl) rfl rfl ?_
  refine wpo_move (v := .int .i64 0) rfl rfl ?_
  refine wpo_nil ?_
  refine Xv ?_
  refine Ye (fun mm f' w' => ∃ (j : Nat), mm = (mAt ms k).t.slots.length - j ∧ j ≤ (mAt ms k).t.slots.length ∧ J (preR ms k j) w' ∧ f' 16 = .int .i64 (j : Int) ∧ f' 0 = .func (.yield l) #[] #[] ∧ f' 7 = .slice a ms.length c ∧ f' 8 = .int .i64 (ms.length : Int) ∧ f' 9 = .int .i64 (k : Int) ∧ f' 14 = .slice ((mAt ms k).sa) ((mAt ms k).t.slots.length) ((mAt ms k).sc) ∧ f' 15 = .int .i64 ((mAt ms k).t.slots.length : Int) ∧ w.grownBy w' none) ((mAt ms k).t.slots.length - 0) ⟨0, rfl, (Nat.zero_le _), (by rw [T2]; exact (hJ _ _ _ none hJk (low1 hN122.grw hS125.grw (Nat.le_trans ((World.grownBy.refl _ none)).size hN122.ge)) (fun r e => by cases e))), rfl, e106, e107, e108, e105, rfl, rfl, hb126⟩ ?_
  rintro mm f127 w128 ⟨j, hm130, hj, hJj, e131, e132, e133, e134, e135, e136, e137, hb129⟩
  refine Xa ?_
  refine wpo_lss (q := decide ((j : Int) < ((mAt ms k).t.slots.length : Int))) e131 e137 rfl rfl ?_
  refine wpo_nil ?_
  refine Xi ?_
  refine Xq rfl (fun h138 => ?_) (fun h138 => ?_)
  ·
   have h139 := of_decide_eq_true h138
   refine Xk ?_
   refine Xn ?_
   refine Xi ?_
   refine Xv ?_
   refine Xa ?_
   obtain ⟨b142, q143, o144, ha145, ho146, hr147⟩ := SlAt.at (TabAt.th (TabAt.low ht hb129) (Xz (show k < ms.length by omega))).1 (Yh (Ve (show j < (mAt ms k).t.slots.length by omega)))
   refine X2 We e136 e131 ha145 ho146 (by omega) (by omega) rfl ?_
   refine wpo_loadn (vs := [.int .i64 ((rAt (mAt ms k).t.slots j).th), .int .i64 ((rAt (mAt ms k).t.slots j).ve), .bool ((rAt (mAt ms k).t.slots j).rd), .bool ((rAt (mAt ms k).t.slots j).wr), .bool ((rAt (mAt ms k).t.slots j).wk)]) Y1 rfl rfl (Qa hr147 0 5 rfl) rfl ?_
   refine wpo_alloc (cs := #[.int .i64 0, .int .i64 0, .bool false, .bool false, .bool false]) H1 rfl rfl ?_
   intro B148 w149 hN150
   have hlB148 := X1 hN150 hb129
   have hb151 := low0 hb129 hN150.grw
   refine wpo_storen (vs := [.int .i64 ((rAt (mAt ms k).t.slots j).th), .int .i64 ((rAt (mAt ms k).t.slots j).ve), .bool ((rAt (mAt ms k).t.slots j).rd), .bool ((rAt (mAt ms k).t.slots j).wr), .bool ((rAt (mAt ms k).t.slots j).wk)]) (cs' := #[.int .i64 ((rAt (mAt ms k).t.slots j).th), .int .i64 ((rAt (mAt ms k).t.slots j).ve), .bool ((rAt (mAt ms k).t.slots j).rd), .bool ((rAt (mAt ms k).t.slots j).wr), .bool ((rAt (mAt ms k).t.slots j).wk)]) Y1 rfl rfl rfl (by simp [Value.oneCell']) hN150.blk (Nat.le_of_ble_eq_true rfl) rfl ?_
   intro w152 hS153
   have hb154 := low1 hb151 hS153.grw (by omega)
   refine wpo_nil ?_
   refine Xa ?_
   refine wpo_move (v := .func (.yield l) #[] #[]) e132 rfl ?_
   refine wpo_loadn (vs := [.int .i64 ((rAt (mAt ms k).t.slots j).th), .int .i64 ((rAt (mAt ms k).t.slots j).ve), .bool ((rAt (mAt ms k).t.slots j).rd), .bool ((rAt (mAt ms k).t.slots j).wr), .bool ((rAt (mAt ms k).t.slots j).wk)]) Y1 rfl rfl (hS153.blk.rangeL 0 5 rfl) rfl ?_
   refine Mx rfl (vs := [.agg #[.int .i64 ((rAt (mAt ms k).t.slots j).th), .int .i64 ((rAt (mAt ms k).t.slots j).ve), .bool ((rAt (mAt ms k).t.slots j).rd), .bool ((rAt (mAt ms k).t.slots j).wr), .bool ((rAt (mAt ms k).t.slots j).wk)]]) (Xb rfl Xg) rfl (hY (preR ms k j) _ _ (hJ _ _ _ none hJj (low1 hN150.grw hS153.grw (Nat.le_trans ((World.grownBy.refl _ none)).size hN150.ge)) (fun r e => by cases e)) (Dq (by omega) (by omega))) ?_
   rintro _ w155 (⟨rfl, hJ157, hg156⟩ | ⟨rfl, hJx158⟩)
   ·
    have hb159 := Pf hb154 hg156
    refine wpo_not (b' := false) rfl rfl rfl ?_
    refine wpo_nil ?_
    refine Ya rfl rfl ?_
    refine Xk ?_
    refine Yy ?_
    refine Xn ?_
    refine Xl ?_
    refine wpo_add (c := (j : Int) + 1) e131 rfl (by omega) (by omega) (by omega) rfl ?_
    refine wpo_move (v := .int .i64 ((j : Int) + 1)) rfl rfl ?_
    refine wpo_nil ?_
    refine Xn ?_
    exact ⟨(mAt ms k).t.slots.length - (j + 1), by omega, (j + 1), rfl, (by omega), (by rw [← Lb (by omega)]; exact hJ157), rfl, e132, e133, e134, e135, e136, e137, hb159⟩
   ·
    refine wpo_not (b' := true) rfl rfl rfl ?_
    refine wpo_nil ?_
    refine X8 rfl rfl ?_
    refine Xj ?_
    refine Qd ?_
    refine X7 ?_
    refine X7 ?_
    refine Qd ?_
    refine Qd ?_
    refine X7 ?_
    refine X7 ?_
    refine Qd ?_
    refine ⟨.tuple #[], res0 rfl, Or.inr ⟨_, Pp (k := k) (j := j + 1) (by omega), ?_⟩⟩
    rw [← Lb (k := k) (j := j) (by omega)]
    exact hJx158
  ·
   have h160 := of_decide_eq_false h138
   refine Yj ?_
   refine Yt ?_
   refine Yt ?_
   refine Jf ?_
   refine Yy ?_
   refine Xn ?_
   refine Xl ?_
   refine wpo_add (c := (k : Int) + 1) e135 rfl (by omega) (by omega) (by omega) rfl ?_
   refine wpo_move (v := .int .i64 ((k : Int) + 1)) rfl rfl ?_
   refine wpo_nil ?_
   refine Xn ?_
   exact ⟨ms.length - (k + 1), by omega, (k + 1), rfl, (by omega), (by rw [← T1 (j := j) (by omega) (by omega)]; exact hJj), rfl, e132, e133, e134, hb129⟩
 ·
  have h161 := of_decide_eq_false h109
  refine Yj ?_
  refine Yt ?_
  refine Yt ?_
  refine Jf ?_
  refine ⟨.tuple #[], res0 rfl, Or.inl ⟨_, rfl, ?_⟩⟩
  have kk := hJk
  rw [Tf (by omega)] at kk
  exact kk
theorem Ka [Comp] (w : World) (ms : List MTh) (a : Option Addr) (c : Nat) (ht : TabAt w a ms) (hlen : TabLen ms) (hn : ms.length ≤ 1048576) : CallsR Try.prog 37 #[.slice a ms.length c] w (fun v w' => v = .bool (tableOk (tabT ms)) ∧ w.grownBy w' none) := by
 refine M3 (n := 53) Try.func37 rfl Try.ntmps37 rfl ?_
 intro J b cs hEnd
 have hb0 := World.grownBy.refl w none
 refine K9 hEnd ?_
 refine wpo_box (v := .slice a ms.length c) (cs := #[.slice a ms.length c]) rfl rfl rfl ?_
 intro B101 w102 hN103
 have hlB101 := X1 hN103 hb0
 have hb104 := low0 hb0 hN103.grw
 refine wpo_alloc (cs := #[.bool false]) Ov rfl rfl ?_
 intro B105 w106 hN107
 have hlB105 := X1 hN107 hb104
 have lt_B101_B105 := Xo hN107 (hN103.blk).lt
 have hb108 := low0 hb104 hN107.grw
 refine wpo_nil ?_
 refine W4 hEnd ?_
 refine Xa ?_
 have k109 := (hN103.blk.grown0 hN107.grw)
 refine wpo_load1 (v := .slice a ms.length c) Kn rfl (k109.cell rfl) rfl ?_
 refine wpo_len (by kernel_rfl) rfl rfl ?_
 refine Xh (vs := [.int .i64 (ms.length : Int), .int .i64 1, .int .i64 8]) V3 (Xb rfl (Xb rfl (Xb rfl Xg))) rfl (Jh (ms.length : Int) 1 8 _) ?_
 rintro _ w110 ⟨rfl, hg111⟩
 have hb112 := low0 hb108 hg111
 refine wpo_not (b' := !inR (ms.length : Int) 1 8) rfl rfl rfl ?_
 refine wpo_nil ?_
 refine Xq rfl (fun h113 => ?_) (fun h113 => ?_)
 ·
  have h114 := Q3 h113
  refine Xa ?_
  have k115 := (hN107.blk.grown0 hg111)
  refine wpo_store1 (v := .bool false) (cs' := #[.bool false]) Vx rfl rfl rfl k115 (Nat.le_of_ble_eq_true rfl) rfl ?_
  intro w116 hS117
  have hb118 := low1 hb112 hS117.grw (by omega)
  refine wpo_nil ?_
  refine Xj ?_
  refine X7 ?_
  exact Df (resC rfl (resCell_mk1 Vx rfl (hS117.blk.cell rfl))) ⟨congrArg Value.bool (Cs h114).symm, hb118⟩
 ·
  have h119 := Y9 h113
  have hr120 := Kh.1 h119
  refine Xk ?_
  refine Xn ?_
  refine W4 hEnd ?_
  refine Xa ?_
  have k121 := (k109.grown0 hg111)
  refine wpo_load1 (v := .slice a ms.length c) Kn rfl (k121.cell rfl) rfl ?_
  refine wpo_len (by kernel_rfl) rfl rfl ?_
  refine wpo_move (v := .int .i64 0) rfl rfl ?_
  refine wpo_nil ?_
  refine Xv ?_
  have k122 := (hN107.blk.grown0 hg111)
  refine Ye (fun mm f' w' => ∃ (k : Nat), mm = ms.length - k ∧ k ≤ ms.length ∧ (((tabT ms).take k).all (headOk (tabT ms))) = true ∧ f' 12 = .int .i64 (k : Int) ∧ f' 0 = .slice a ms.length c ∧ f' 1 = .pointer (some ⟨B101, 0, none⟩) ∧ f' 2 = .pointer (some ⟨B105, 0, none⟩) ∧ f' 10 = .slice a ms.length c ∧ f' 11 = .int .i64 (ms.length : Int) ∧ w.grownBy w' none ∧ Blk w' B101 23 #[.slice a ms.length c] ∧ Blk w' B105 4 #[.bool false]) (ms.length - 0) ⟨0, rfl, (Nat.zero_le _), rfl, rfl, rfl, rfl, rfl, rfl, rfl, hb112, k121, k122⟩ ?_
  rintro mm f123 w124 ⟨k, hm126, hk, hall, e127, e128, e129, e130, e131, e132, hb125, k133, k134⟩
  refine Xa ?_
  refine wpo_lss (q := decide ((k : Int) < (ms.length : Int))) e127 e132 rfl rfl ?_
  refine wpo_nil ?_
  refine Xi ?_
  refine Xq rfl (fun h135 => ?_) (fun h135 => ?_)
  ·
   have h136 := of_decide_eq_true h135
   refine Xk ?_
   refine Xn ?_
   refine Xi ?_
   refine Xv ?_
   refine Xa ?_
   obtain ⟨b139, q140, o141, ha142, ho143, hr144⟩ := SlAt.at (TabAt.low ht hb125).1 (Yh (Xz (show k < ms.length by omega)))
   have hle145 := TabLen.at hlen (Xz (show k < ms.length by omega))
   refine X2 Qp e131 e127 ha142 ho143 (by omega) (by omega) rfl ?_
   refine wpo_loadn (vs := [.int .i64 ((mAt ms k).t.kind), .int .i64 ((mAt ms k).t.lab.s), .int .i64 ((mAt ms k).t.lab.v), .int .i64 ((mAt ms k).t.ve), .int .i64 ((mAt ms k).t.num), .slice ((mAt ms k).sa) ((mAt ms k).t.slots.length) ((mAt ms k).sc), .slice ((mAt ms k).qa) ((mAt ms k).t.queue.length) ((mAt ms k).qc), .int .i64 ((mAt ms k).t.to)]) Xx rfl rfl (Qa hr144 0 8 rfl) rfl ?_
   refine wpo_alloc (cs := #[.int .i64 0, .int .i64 0, .int .i64 0, .int .i64 0, .int .i64 0, .slice none 0 0, .slice none 0 0, .int .i64 0]) Q6 rfl rfl ?_
   intro B146 w147 hN148
   have hlB146 := X1 hN148 hb125
   have lt_B101_B146 := Xo hN148 (k133).lt
   have lt_B105_B146 := Xo hN148 (k134).lt
   have hb149 := low0 hb125 hN148.grw
   refine wpo_storen (vs := [.int .i64 ((mAt ms k).t.kind), .int .i64 ((mAt ms k).t.lab.s), .int .i64 ((mAt ms k).t.lab.v), .int .i64 ((mAt ms k).t.ve), .int .i64 ((mAt ms k).t.num), .slice ((mAt ms k).sa) ((mAt ms k).t.slots.length) ((mAt ms k).sc), .slice ((mAt ms k).qa) ((mAt ms k).t.queue.length) ((mAt ms k).qc), .int .i64 ((mAt ms k).t.to)]) (cs' := #[.int .i64 ((mAt ms k).t.kind), .int .i64 ((mAt ms k).t.lab.s), .int .i64 ((mAt ms k).t.lab.v), .int .i64 ((mAt ms k).t.ve), .int .i64 ((mAt ms k).t.num), .slice ((mAt ms k).sa) ((mAt ms k).t.slots.length) ((mAt ms k).sc), .slice ((mAt ms k).qa) ((mAt ms k).t.queue.length) ((mAt ms k).qc), .int .i64 ((mAt ms k).t.to)]) Xx rfl rfl rfl (by simp [Value.oneCell']) hN148.blk (Nat.le_of_ble_eq_true rfl) rfl ?_
   intro w150 hS151
   have hb152 := low1 hb149 hS151.grw (by omega)
   refine wpo_nil ?_
   refine Xi ?_
   refine Xa ?_
   refine wpo_loadn (vs := [.int .i64 ((mAt ms k).t.kind), .int .i64 ((mAt ms k).t.lab.s), .int .i64 ((mAt ms k).t.lab.v), .int .i64 ((mAt ms k).t.ve), .int .i64 ((mAt ms k).t.num), .slice ((mAt ms k).sa) ((mAt ms k).t.slots.length) ((mAt ms k).sc), .slice ((mAt ms k).qa) ((mAt ms k).t.queue.length) ((mAt ms k).qc), .int .i64 ((mAt ms k).t.to)]) Xx rfl rfl (hS151.blk.rangeL 0 8 rfl) rfl ?_
   refine Xh (vs := [.agg #[.int .i64 ((mAt ms k).t.kind), .int .i64 ((mAt ms k).t.lab.s), .int .i64 ((mAt ms k).t.lab.v), .int .i64 ((mAt ms k).t.ve), .int .i64 ((mAt ms k).t.num), .slice ((mAt ms k).sa) ((mAt ms k).t.slots.length) ((mAt ms k).sc), .slice ((mAt ms k).qa) ((mAt ms k).t.queue.length) ((mAt ms k).qc), .int .i64 ((mAt ms k).t.to)]]) Pc (Xb rfl Xg) rfl (Vg (mAt ms k) _ (TabAt.th (TabAt.low ht hb152) (Xz (show k < ms.length by omega))).1 (TabAt.th (TabAt.low ht hb152) (Xz (show k < ms.length by omega))).2.1 (by first | omega | exact Nat.le_of_ble_eq_true rfl | (simp only [List.length_nil, List.length_cons, List.length_append, List.length_replicate]; omega)) (by first | omega | exact Nat.le_of_ble_eq_true rfl | (simp only [List.length_nil, List.length_cons, List.length_append, List.length_replicate]; omega))) ?_
   rintro _ w153 ⟨rfl, hg154⟩
   have hb155 := low0 hb152 hg154
   refine wpo_not (b' := !thingOk (mAt ms k).t) rfl rfl rfl ?_
   refine wpo_nil ?_
   refine Xq rfl (fun h156 => ?_) (fun h156 => ?_)
   ·
    have h157 := Q3 h156
    refine Xa ?_
    have k158 := (((k134.grown0 hN148.grw).gn hS151.grw).grown0 hg154)
    refine wpo_store1 (v := .bool false) (cs' := #[.bool false]) Vx e130 rfl rfl k158 (Nat.le_of_ble_eq_true rfl) rfl ?_
    intro w159 hS160
    have hb161 := low1 hb155 hS160.grw (by omega)
    refine wpo_nil ?_
    refine Xj ?_
    refine X7 ?_
    refine Qd ?_
    refine X7 ?_
    refine X7 ?_
    refine Qd ?_
    refine X7 ?_
    exact Df (resC rfl (resCell_mk1 Vx e130 (hS160.blk.cell rfl))) ⟨congrArg Value.bool (S9 (k := k) (by omega) (by unfold headOk; rw [h157]; rfl)).symm, hb161⟩
   ·
    have h162 := Y9 h156
    refine Xk ?_
    refine Xn ?_
    refine Xs (fun f' w' => (f' 0 = .slice a ms.length c ∧ f' 1 = .pointer (some ⟨B101, 0, none⟩) ∧ f' 2 = .pointer (some ⟨B105, 0, none⟩) ∧ f' 10 = .slice a ms.length c ∧ f' 11 = .int .i64 (ms.length : Int) ∧ f' 12 = .int .i64 (k : Int) ∧ f' 28 = .bool ((decide ((mAt ms k).t.kind = 5)) && (!kindAt (tabT ms) ((mAt ms k).t.to) 1))) ∧ w153.grownBy w' none) ?_ ?_
    ·
     refine wpo_fieldAddr (o' := 0) X9 rfl rfl rfl ?_
     have k169 := (hS151.blk.grown0 hg154)
     refine wpo_load1 (v := .int .i64 ((mAt ms k).t.kind)) X0 rfl (k169.cell rfl) rfl ?_
     refine wpo_eql (q := decide ((mAt ms k).t.kind = 5)) rfl rfl rfl rfl ?_
     refine wpo_move (v := .bool (decide ((mAt ms k).t.kind = 5))) rfl rfl ?_
     rcases Xy (decide ((mAt ms k).t.kind = 5)) with h170 | h170
     ·
      have hgt171 := G2 h162 h170
      have h172 := of_decide_eq_true h170
      refine Xc rfl rfl rfl h170 ?_
      have k173 := (((k133.grown0 hN148.grw).gn hS151.grw).grown0 hg154)
      refine wpo_load1 (v := .slice a ms.length c) Kn e129 (k173.cell rfl) rfl ?_
      refine Xc rfl rfl rfl h170 ?_
      refine wpo_fieldAddr (o' := 7) Jj rfl rfl rfl ?_
      refine Xc rfl rfl rfl h170 ?_
      refine wpo_load1 (v := .int .i64 ((mAt ms k).t.to)) X0 rfl (k169.cell rfl) rfl ?_
      refine Xc rfl rfl rfl h170 ?_
      refine Xh (vs := [.slice a ms.length c, .int .i64 ((mAt ms k).t.to), .int .i64 1]) I0 (Xb rfl (Xb rfl (Xb rfl Xg))) rfl (Bo ((mAt ms k).t.to) 1 (by omega) _ ms _ _ (TabAt.low ht hb155) hlen (by omega)) ?_
      rintro _ w174 ⟨rfl, hg175⟩
      have hb176 := low0 hb155 hg175
      refine Xc rfl rfl rfl h170 ?_
      refine wpo_not (b' := !kindAt (tabT ms) ((mAt ms k).t.to) 1) rfl rfl rfl ?_
      refine wpo_pickt (v := .bool (!kindAt (tabT ms) ((mAt ms k).t.to) 1)) rfl h170 rfl rfl ?_
      exact wpo_nil ⟨⟨e128, e129, e130, e131, e132, e127, (congrArg Value.bool (by first | (simp only [h113, h119, h135, h156, h162, h170, b0, b1, b2, b3, b4, b5, b6, b7, b8, b9]; done) | simp [h113, h119, h135, h156, h162, h170]))⟩, hg175⟩
     ·
      have h177 := of_decide_eq_false h170
      iterate 5 refine Xe rfl rfl rfl h170 rfl ?_
      refine wpo_pickf (v := .bool false) rfl h170 rfl rfl ?_
      exact wpo_nil ⟨⟨e128, e129, e130, e131, e132, e127, (congrArg Value.bool (by first | (simp only [h113, h119, h135, h156, h162, h170, b0, b1, b2, b3, b4, b5, b6, b7, b8, b9]; done) | simp [h113, h119, h135, h156, h162, h170]))⟩, (World.grownBy.refl _ _)⟩
    ·
     rintro f178 w179 ⟨⟨e180, e181, e182, e183, e184, e185, e186⟩, hg187⟩
     have hb188 := low0 hb155 hg187
     refine Xq e186 (fun h189 => ?_) (fun h189 => ?_)
     ·
      have h190 := Sv h189
      have hgt191 := G2 h162 h190
      have h192 := of_decide_eq_true h190
      have h193 := Sw h189
      have h194 := Q3 h193
      refine Xa ?_
      have k195 := ((((k134.grown0 hN148.grw).gn hS151.grw).grown0 hg154).grown0 hg187)
      refine wpo_store1 (v := .bool false) (cs' := #[.bool false]) Vx e182 rfl rfl k195 (Nat.le_of_ble_eq_true rfl) rfl ?_
      intro w196 hS197
      have hb198 := low1 hb188 hS197.grw (by omega)
      refine wpo_nil ?_
      refine Xj ?_
      refine Qd ?_
      refine X7 ?_
      refine X7 ?_
      refine Qd ?_
      refine X7 ?_
      exact Df (resC rfl (resCell_mk1 Vx e182 (hS197.blk.cell rfl))) ⟨congrArg Value.bool (S9 (k := k) (by omega) (by unfold headOk; rw [Q3 (Bg.symm.trans h189), Bool.and_false])).symm, hb198⟩
     ·
      refine Xk ?_
      refine Yy ?_
      refine Xn ?_
      refine Xl ?_
      refine wpo_add (c := (k : Int) + 1) e185 rfl (by omega) (by omega) (by omega) rfl ?_
      refine wpo_move (v := .int .i64 ((k : Int) + 1)) rfl rfl ?_
      refine wpo_nil ?_
      refine Xn ?_
      have k199 := ((((k133.grown0 hN148.grw).gn hS151.grw).grown0 hg154).grown0 hg187)
      have k200 := ((((k134.grown0 hN148.grw).gn hS151.grw).grown0 hg154).grown0 hg187)
      exact ⟨ms.length - (k + 1), by omega, (k + 1), rfl, (by omega), (Ja (p := headOk (tabT ms)) hall (K7 (by omega)) (by unfold headOk; rw [h162, Y9 (Bg.symm.trans h189)]; rfl)), rfl, e180, e181, e182, e183, e184, hb188, k199, k200⟩
  ·
   have h201 := of_decide_eq_false h135
   refine Yj ?_
   refine Yt ?_
   refine Yt ?_
   refine Jf ?_
   refine Xn ?_
   refine Ri hEnd ?_
   refine K9 hEnd ?_
   refine wpo_load1 (v := .slice a ms.length c) Kn e129 (k133.cell rfl) rfl ?_
   refine Xh (vs := [.slice a ms.length c]) I1 (Xb rfl Xg) rfl (Ny _ ms _ _) ?_
   rintro _ w206 ⟨B202, rfl, hge203, k204, hg205⟩
   have hb207 := low0 hb125 hg205
   have hlB202 := Nat.le_trans hb125.size hge203
   have lt_B101_B202 := Nat.lt_of_lt_of_le (k133).lt hge203
   have lt_B105_B202 := Nat.lt_of_lt_of_le (k134).lt hge203
   refine wpo_nil ?_
   have k208 := (k133.grown0 hg205)
   have k209 := (k134.grown0 hg205)
   refine Tc (fun f' => f' 1 = .pointer (some ⟨B101, 0, none⟩) ∧ f' 2 = .pointer (some ⟨B105, 0, none⟩) ∧ f' 31 = .func (.func 111) #[] #[.pointer (some ⟨B202, 0, none⟩)]) ⟨e129, e130, rfl⟩ ?_
   rintro fT ⟨e1, e2, e3⟩ a0 ha
   obtain ⟨tm, df⟩ := a0
   obtain rfl : df = [] := ha.defers
   have hlb2 : B105 < w206.heap.size := (k209).lt
   refine hEnd.closed.move rfl (fun _ => Gp) ?_
   refine Me hEnd.closed hEnd.early hEnd.ro (n := 53) (encs := fun x : Rt => .agg x.cells.toArray) ha e3 Fe rfl (Nf w206 B202 ms a c (TabAt.low ht hb207) hlen hn k204) (Below.refl _ _) (Nat.le_refl _) (fun pre W => w.grownBy W none ∧ Blk W B101 23 #[.slice a ms.length c] ∧ Blk W B105 4 #[.bool false] ∧ pre.all (rightTo (tabT ms)) = true ∧ w206.heap.size ≤ W.heap.size) (fun pre W => w.grownBy W none ∧ Blk W B105 4 #[.bool false] ∧ pre.all (rightTo (tabT ms)) = false) (fun s A B row hs hg hr => ⟨H9 hs.1 hg hb207.size hr, Gx hs.2.1 hg hr, Gx hs.2.2.1 hg hr, hs.2.2.2.1, Nat.le_trans hs.2.2.2.2 hg.size⟩) (fun s A B row hs hg hr => ⟨H9 hs.1 hg hb207.size hr, Gx hs.2.1 hg hr, hs.2.2⟩) ⟨hb207, k208, k209, rfl, Nat.le_refl _⟩ (fun x f' W => ∃ Bx : Nat, Blk W Bx 74 x.cells.toArray ∧ f' 5 = .pointer (some ⟨Bx, 0, none⟩) ∧ f' 1 = .pointer (some ⟨B101, 0, none⟩) ∧ f' 2 = .pointer (some ⟨B105, 0, none⟩)) (fun f' x A B row hs hg hr => by obtain ⟨Bx, h1, h2⟩ := hs; exact ⟨Bx, Gx h1 hg hr, h2⟩) ?_ ?_ ?_ ?_
   ·
    intro pre x W hlW hi
    refine Xl ?_
    refine wpo_alloc (cs := #[.int .i64 0, .int .i64 0, .bool false, .bool false, .bool false]) H1 rfl rfl ?_
    intro B210 w211 hN212
    have hlB210 := X1 hN212 hi.1
    have hb213 := low0 hi.1 hN212.grw
    refine wpo_storen (vs := [.int .i64 x.th, .int .i64 x.ve, .bool x.rd, .bool x.wr, .bool x.wk]) (cs' := #[.int .i64 x.th, .int .i64 x.ve, .bool x.rd, .bool x.wr, .bool x.wk]) Y1 rfl rfl rfl (by simp [Value.oneCell']) hN212.blk (Nat.le_of_ble_eq_true rfl) rfl ?_
    intro w214 hS215
    have hb216 := low1 hb213 hS215.grw (by omega)
    refine wpo_nil ?_
    exact ⟨rfl, (low1 hN212.grw hS215.grw (Nat.le_trans ((World.grownBy.refl _ none)).size hN212.ge)), B210, hS215.blk, rfl, e1, e2⟩
   ·
    rintro pre x f' W hlW hi ⟨Bx, hbx, h5, h1, h2⟩ hlt
    refine Wpf.mono (Q := (fun e f'' w' => (e = .normal ∧ W.grownBy w' none ∧ rightTo (tabT ms) x = true) ∨ (e = .ret ∧ W.grownBy w' (some B105) ∧ w.grownBy w' none ∧ Blk w' B105 4 #[.bool false] ∧ rightTo (tabT ms) x = false))) ?_ ?_
    ·
     refine Xv ?_
     refine Xi ?_
     refine Xa ?_
     refine wpo_fieldAddr (o' := 0) Qx h5 rfl rfl ?_
     refine wpo_load1 (v := .int .i64 x.th) X0 rfl (hbx.cell rfl) rfl ?_
     refine wpo_eql (q := decide (x.th = 0)) rfl rfl rfl rfl ?_
     refine wpo_nil ?_
     refine Xq rfl (fun h217 => ?_) (fun h217 => ?_)
     ·
      have h218 := of_decide_eq_true h217
      refine Yj ?_
      refine Yt ?_
      refine Jf ?_
      exact Or.inl ⟨rfl, (World.grownBy.refl _ _), Mh h217⟩
     ·
      have h219 := of_decide_eq_false h217
      refine Xk ?_
      refine Xn ?_
      refine Kl (fun f' w' => (f' 2 = .pointer (some ⟨B105, 0, none⟩) ∧ f' 52 = .bool ((!inR x.th 1 (ms.length : Int)) || (decide ((mAt ms ((x.th - 1).toNat)).t.ve < x.ve)))) ∧ W.grownBy w' none) ?_ ?_
      ·
       rcases Xy (!inR x.th 1 (ms.length : Int)) with h240 | h240
       ·
        have h241 := Q3 h240
        refine Qh (m := 15) (vals := [(36, .slice a ms.length c), (37, .pointer (some ⟨Bx, 0, none⟩)), (38, .int .i64 x.th), (39, .bool (inR x.th 1 (ms.length : Int))), (40, .bool (!inR x.th 1 (ms.length : Int))), (41, .bool (!inR x.th 1 (ms.length : Int))), (42, undef), (43, undef), (44, undef), (45, undef), (46, undef), (47, undef), (48, undef), (49, undef), (50, undef)]) (fun w' => W.grownBy w' none) Qq (by kernel_rfl) (X5 _) ?_ ?_
        ·
         refine Xd rfl (fun w251 hi252 => ?_) ?_
         ·
          have hb253 := low0 hi.1 hi252
          have k254 := (hi.2.1.grown0 hi252)
          refine wpo_load1 (v := .slice a ms.length c) Kn h1 (k254.cell rfl) rfl ?_
          exact wpo_nil ⟨rfl, hi252⟩
         refine Xd rfl (fun w255 hi256 => ?_) ?_
         ·
          have hb257 := low0 hi.1 hi256
          refine wpo_fieldAddr (o' := 0) Qx h5 rfl rfl ?_
          exact wpo_nil ⟨rfl, hi256⟩
         refine Xd rfl (fun w258 hi259 => ?_) ?_
         ·
          have hb260 := low0 hi.1 hi259
          have k261 := (hbx.grown0 hi259)
          refine wpo_load1 (v := .int .i64 x.th) X0 rfl (k261.cell rfl) rfl ?_
          exact wpo_nil ⟨rfl, hi259⟩
         refine Xd rfl (fun w262 hi263 => ?_) ?_
         ·
          have hb264 := low0 hi.1 hi263
          refine Xh (vs := [.slice a ms.length c, .int .i64 x.th]) Pe (Xb rfl (Xb rfl Xg)) rfl (Ju x.th _ _ _ _) ?_
          rintro _ w265 ⟨rfl, hg266⟩
          have hb267 := low0 hb264 hg266
          exact wpo_nil ⟨rfl, (Xf hi263 hg266)⟩
         refine Xd rfl (fun w268 hi269 => ?_) ?_
         ·
          have hb270 := low0 hi.1 hi269
          refine wpo_not (b' := !inR x.th 1 (ms.length : Int)) rfl rfl rfl ?_
          exact wpo_nil ⟨rfl, hi269⟩
         refine Xd rfl (fun w271 hi272 => ?_) ?_
         ·
          have hb273 := low0 hi.1 hi272
          refine wpo_move (v := .bool (!inR x.th 1 (ms.length : Int))) rfl rfl ?_
          exact wpo_nil ⟨rfl, hi272⟩
         refine Xd rfl (fun w274 hi275 => ?_) ?_
         ·
          have hb276 := low0 hi.1 hi275
          refine Xe rfl rfl rfl h240 rfl ?_
          exact wpo_nil ⟨rfl, hi275⟩
         refine Xd rfl (fun w277 hi278 => ?_) ?_
         ·
          have hb279 := low0 hi.1 hi278
          refine Xe rfl rfl rfl h240 rfl ?_
          exact wpo_nil ⟨rfl, hi278⟩
         refine Xd rfl (fun w280 hi281 => ?_) ?_
         ·
          have hb282 := low0 hi.1 hi281
          refine Xe rfl rfl rfl h240 rfl ?_
          exact wpo_nil ⟨rfl, hi281⟩
         refine Xd rfl (fun w283 hi284 => ?_) ?_
         ·
          have hb285 := low0 hi.1 hi284
          refine Xe rfl rfl rfl h240 rfl ?_
          exact wpo_nil ⟨rfl, hi284⟩
         refine Xd rfl (fun w286 hi287 => ?_) ?_
         ·
          have hb288 := low0 hi.1 hi287
          refine Xe rfl rfl rfl h240 rfl ?_
          exact wpo_nil ⟨rfl, hi287⟩
         refine Xd rfl (fun w289 hi290 => ?_) ?_
         ·
          have hb291 := low0 hi.1 hi290
          refine Xe rfl rfl rfl h240 rfl ?_
          exact wpo_nil ⟨rfl, hi290⟩
         refine Xd rfl (fun w292 hi293 => ?_) ?_
         ·
          have hb294 := low0 hi.1 hi293
          refine Xe rfl rfl rfl h240 rfl ?_
          exact wpo_nil ⟨rfl, hi293⟩
         refine Xd rfl (fun w295 hi296 => ?_) ?_
         ·
          have hb297 := low0 hi.1 hi296
          refine Xe rfl rfl rfl h240 rfl ?_
          exact wpo_nil ⟨rfl, hi296⟩
         refine Xd rfl (fun w298 hi299 => ?_) ?_
         ·
          have hb300 := low0 hi.1 hi299
          refine Xe rfl rfl rfl h240 rfl ?_
          exact wpo_nil ⟨rfl, hi299⟩
         exact Q0
        ·
         intro w301 hi302
         have hb303 := low0 hi.1 hi302
         refine Xe rfl rfl rfl h240 rfl ?_
         refine wpo_pickt (v := .bool true) rfl h240 rfl rfl ?_
         exact wpo_nil (Xn ⟨⟨h2, (congrArg Value.bool (by first | (simp only [h217, h240, h241, b0, b1, b2, b3, b4, b5, b6, b7, b8, b9]; done) | simp [h217, h240, h241]))⟩, hi302⟩)
       ·
        have h304 := Y9 h240
        have hr305 := Kh.1 h304
        obtain ⟨b327, q328, o329, ha330, ho331, hr332⟩ := SlAt.at (TabAt.low ht hi.1).1 (Yh (Xz (show (x.th - 1).toNat < ms.length by omega)))
        have hle333 := TabLen.at hlen (Xz (show (x.th - 1).toNat < ms.length by omega))
        refine Qh (m := 15) (vals := [(36, .slice a ms.length c), (37, .pointer (some ⟨Bx, 0, none⟩)), (38, .int .i64 x.th), (39, .bool (inR x.th 1 (ms.length : Int))), (40, .bool (!inR x.th 1 (ms.length : Int))), (41, .bool (!inR x.th 1 (ms.length : Int))), (42, .pointer (some ⟨Bx, 1, none⟩)), (43, .int .i64 x.ve), (44, .slice a ms.length c), (45, .pointer (some ⟨Bx, 0, none⟩)), (46, .int .i64 x.th), (47, .int .i64 (x.th - 1)), (48, .pointer (some ⟨b327, o329, none⟩)), (49, .pointer (some ⟨b327, o329 + 3, none⟩)), (50, .int .i64 ((mAt ms ((x.th - 1).toNat)).t.ve))]) (fun w' => W.grownBy w' none) Qq (by kernel_rfl) (X5 _) ?_ ?_
        ·
         refine Xd rfl (fun w339 hi340 => ?_) ?_
         ·
          have hb341 := low0 hi.1 hi340
          have k342 := (hi.2.1.grown0 hi340)
          refine wpo_load1 (v := .slice a ms.length c) Kn h1 (k342.cell rfl) rfl ?_
          exact wpo_nil ⟨rfl, hi340⟩
         refine Xd rfl (fun w343 hi344 => ?_) ?_
         ·
          have hb345 := low0 hi.1 hi344
          refine wpo_fieldAddr (o' := 0) Qx h5 rfl rfl ?_
          exact wpo_nil ⟨rfl, hi344⟩
         refine Xd rfl (fun w346 hi347 => ?_) ?_
         ·
          have hb348 := low0 hi.1 hi347
          have k349 := (hbx.grown0 hi347)
          refine wpo_load1 (v := .int .i64 x.th) X0 rfl (k349.cell rfl) rfl ?_
          exact wpo_nil ⟨rfl, hi347⟩
         refine Xd rfl (fun w350 hi351 => ?_) ?_
         ·
          have hb352 := low0 hi.1 hi351
          refine Xh (vs := [.slice a ms.length c, .int .i64 x.th]) Pe (Xb rfl (Xb rfl Xg)) rfl (Ju x.th _ _ _ _) ?_
          rintro _ w353 ⟨rfl, hg354⟩
          have hb355 := low0 hb352 hg354
          exact wpo_nil ⟨rfl, (Xf hi351 hg354)⟩
         refine Xd rfl (fun w356 hi357 => ?_) ?_
         ·
          have hb358 := low0 hi.1 hi357
          refine wpo_not (b' := !inR x.th 1 (ms.length : Int)) rfl rfl rfl ?_
          exact wpo_nil ⟨rfl, hi357⟩
         refine Xd rfl (fun w359 hi360 => ?_) ?_
         ·
          have hb361 := low0 hi.1 hi360
          refine wpo_move (v := .bool (!inR x.th 1 (ms.length : Int))) rfl rfl ?_
          exact wpo_nil ⟨rfl, hi360⟩
         refine Xd rfl (fun w362 hi363 => ?_) ?_
         ·
          have hb364 := low0 hi.1 hi363
          refine Xc rfl rfl rfl h240 ?_
          refine wpo_fieldAddr (o' := 1) J8 h5 rfl rfl ?_
          exact wpo_nil ⟨rfl, hi363⟩
         refine Xd rfl (fun w365 hi366 => ?_) ?_
         ·
          have hb367 := low0 hi.1 hi366
          refine Xc rfl rfl rfl h240 ?_
          have k368 := (hbx.grown0 hi366)
          refine wpo_load1 (v := .int .i64 x.ve) X0 rfl (k368.cell rfl) rfl ?_
          exact wpo_nil ⟨rfl, hi366⟩
         refine Xd rfl (fun w369 hi370 => ?_) ?_
         ·
          have hb371 := low0 hi.1 hi370
          refine Xc rfl rfl rfl h240 ?_
          have k372 := (hi.2.1.grown0 hi370)
          refine wpo_load1 (v := .slice a ms.length c) Kn h1 (k372.cell rfl) rfl ?_
          exact wpo_nil ⟨rfl, hi370⟩
         refine Xd rfl (fun w373 hi374 => ?_) ?_
         ·
          have hb375 := low0 hi.1 hi374
          refine Xc rfl rfl rfl h240 ?_
          refine wpo_fieldAddr (o' := 0) Qx h5 rfl rfl ?_
          exact wpo_nil ⟨rfl, hi374⟩
         refine Xd rfl (fun w376 hi377 => ?_) ?_
         ·
          have hb378 := low0 hi.1 hi377
          refine Xc rfl rfl rfl h240 ?_
          have k379 := (hbx.grown0 hi377)
          refine wpo_load1 (v := .int .i64 x.th) X0 rfl (k379.cell rfl) rfl ?_
          exact wpo_nil ⟨rfl, hi377⟩
         refine Xd rfl (fun w380 hi381 => ?_) ?_
         ·
          have hb382 := low0 hi.1 hi381
          refine Xc rfl rfl rfl h240 ?_
          refine wpo_sub (c := x.th - 1) rfl rfl (by omega) (by omega) (by omega) rfl ?_
          exact wpo_nil ⟨rfl, hi381⟩
         refine Xd rfl (fun w383 hi384 => ?_) ?_
         ·
          have hb385 := low0 hi.1 hi384
          refine Xc rfl rfl rfl h240 ?_
          refine X2 Qp rfl rfl ha330 ho331 (by omega) (by omega) rfl ?_
          exact wpo_nil ⟨rfl, hi384⟩
         refine Xd rfl (fun w386 hi387 => ?_) ?_
         ·
          have hb388 := low0 hi.1 hi387
          refine Xc rfl rfl rfl h240 ?_
          refine wpo_fieldAddr (o' := o329 + 3) Qw rfl rfl rfl ?_
          exact wpo_nil ⟨rfl, hi387⟩
         refine Xd rfl (fun w389 hi390 => ?_) ?_
         ·
          have hb391 := low0 hi.1 hi390
          refine Xc rfl rfl rfl h240 ?_
          refine wpo_load1 (v := .int .i64 ((mAt ms ((x.th - 1).toNat)).t.ve)) X0 rfl ((Yp hr332 hi390) 3 _ rfl) rfl ?_
          exact wpo_nil ⟨rfl, hi390⟩
         exact Q0
        ·
         intro w392 hi393
         have hb394 := low0 hi.1 hi393
         refine Xc rfl rfl rfl h240 ?_
         refine wpo_gtr (q := decide ((mAt ms ((x.th - 1).toNat)).t.ve < x.ve)) rfl rfl rfl rfl ?_
         refine wpo_pickf (v := .bool (decide ((mAt ms ((x.th - 1).toNat)).t.ve < x.ve))) rfl h240 rfl rfl ?_
         exact wpo_nil (Xn ⟨⟨h2, (congrArg Value.bool (by first | (simp only [h217, h240, h304, b0, b1, b2, b3, b4, b5, b6, b7, b8, b9]; done) | simp [h217, h240, h304]))⟩, hi393⟩)
      ·
       rintro f395 w396 ⟨⟨e397, e398⟩, hg399⟩
       have hb400 := low0 hi.1 hg399
       refine Xq e398 (fun h401 => ?_) (fun h401 => ?_)
       ·
        refine Xa ?_
        have k402 := (hi.2.2.1.grown0 hg399)
        refine wpo_store1 (v := .bool false) (cs' := #[.bool false]) Vx e397 rfl rfl k402 (Nat.le_of_ble_eq_true rfl) rfl ?_
        intro w403 hS404
        have hb405 := low1 hb400 hS404.grw (by omega)
        refine wpo_nil ?_
        refine Xj ?_
        refine Qd ?_
        exact Or.inr ⟨rfl, (Xf (Ry hg399) hS404.grw), hb405, hS404.blk, Q3 ((Lg h217).symm.trans h401)⟩
       ·
        have h406 := J5 h401
        have h407 := Y9 h406
        have hr408 := Kh.1 h407
        have h409 := J6 h401
        have h410 := of_decide_eq_false h409
        refine Xk ?_
        refine Yy ?_
        exact Or.inl ⟨rfl, hg399, Y9 ((Lg h217).symm.trans h401)⟩
    ·
     rintro e f2 w2 (⟨rfl, hg, hx⟩ | ⟨rfl, hg, hg0, hb, hx⟩)
     ·
      exact Or.inl ⟨rfl, Rz hg, Rm hg hlW, low0 hi.1 hg, hi.2.1.grown0 hg, hi.2.2.1.grown0 hg, by rw [List.all_append, hi.2.2.2.1]; simp [hx], Nat.le_trans hi.2.2.2.2 hg.size⟩
     ·
      exact Or.inr ⟨rfl, R0 hg hlb2, hg.size, hg0, hb, by rw [List.all_append]; simp [hx]⟩
   ·
    intro D xs W hD hS hi hK
    subst hS
    have hDB : D ≠ B105 := by omega
    refine hEnd.closed.move rfl (fun _ => Uw) ?_
    refine M6 hEnd (fT := fT) (v := .bool true) (cs' := #[.bool true]) ha.eval Vx e2 rfl rfl hi.2.2.1 (by simp) rfl fun W2 hsb => ?_
    have hK' : W2.heap[D]? = some (.deferred (some [])) := (hsb.grw.block D (Array.getElem?_eq_some_iff.1 hK).1 (fun e => hDB (Option.some.inj e))).trans hK
    have hgp := grownBy_putObj' W2 D (.deferred none)
    have hb2 := hsb.blk.grown hgp (Ql (Ne.symm hDB))
    refine hEnd.finD ha hK' ⟨.bool true, resC rfl (resCell_mk1 Vx e2 (hb2.cell rfl)), ?_, ?_⟩ _
    ·
     rw [P6 h119 hall (by omega), hi.2.2.2.1]
    ·
     exact low1 (low1 hi.1 hsb.grw (by omega)) hgp (Nat.le_trans hb207.size hD)
   ·
    intro D pre W hD hSp hx hK
    obtain ⟨hg, hb, hf⟩ := hx
    have hDB : D ≠ B105 := by omega
    have hgp := grownBy_putObj' W D (.deferred none)
    have hb2 := hb.grown hgp (Ql (Ne.symm hDB))
    refine hEnd.finD ha hK ⟨.bool false, resC rfl (resCell_mk1 Vx e2 (hb2.cell rfl)), ?_, ?_⟩ _
    ·
     rw [P6 h119 hall (by omega), Rk hSp hf]
    ·
     exact low1 hg hgp (Nat.le_trans hb207.size hD)
end Go.Dw.J
end
section
namespace Go.Dw
set_option linter.unusedSimpArgs false
set_option linter.unusedVariables false
def viewTh (t : Th) (l : Lab) : Th := if labelFlow t.lab l = true then t else thingNew t.kind t.lab t.to
theorem Rc {t : Th} {l : Lab} (h : labelFlow t.lab l = true) : viewTh t l = t := if_pos h
theorem Rf {t : Th} {l : Lab} (h : labelFlow t.lab l = false) (h2 : newOk t.kind t.lab t.to = false) : viewTh t l = Th.zero := by
  unfold viewTh thingNew
  rw [if_neg (by rw [h]; simp), if_neg (by rw [h2]; simp)]
theorem Mu {t : Th} {l : Lab} (h : labelFlow t.lab l = false) (h2 : newOk t.kind t.lab t.to = true) (h3 : (decide (t.kind = 2) || decide (t.kind = 3)) = true) : viewTh t l = ⟨t.kind, t.lab, 0, 0, zeros4, [], t.to⟩ := by
  unfold viewTh thingNew newTh
  rw [if_neg (by rw [h]; simp), if_pos h2, if_pos (by unfold has4; exact h3)]
theorem Mt {t : Th} {l : Lab} (h : labelFlow t.lab l = false) (h2 : newOk t.kind t.lab t.to = true) (h3 : (decide (t.kind = 2) || decide (t.kind = 3)) = false) : viewTh t l = ⟨t.kind, t.lab, 0, 0, [], [], t.to⟩ := by
  unfold viewTh thingNew newTh
  rw [if_neg (by rw [h]; simp), if_pos h2, if_neg (by unfold has4; rw [h3]; simp)]
end Go.Dw
end
section
namespace Go.Dw.J
open Go.RowKit Go.Dw Go.Proofs
set_option linter.unusedSectionVars false
set_option maxRecDepth 100000
set_option maxHeartbeats 4000000
set_option linter.unusedSimpArgs false
set_option linter.unusedVariables false
theorem Ff : goFn Try.prog 116 = true := by kernel_rfl
theorem S1 : goFn Try.prog 17 = true := by kernel_rfl
theorem Em : goFn Try.prog 18 = true := by kernel_rfl
theorem I2 : goFn Try.prog 86 = true := by kernel_rfl
theorem Dc [Comp] (w : World) (xs : List Int) (a : Option Addr) (c : Nat) (hs : SlAt w a 1 (xs.map icell)) (hc : a = none → c = 0) (hn : xs.length ≤ 1048576) : CallsR Try.prog 116 #[.slice a xs.length c] w (fun v w' => ∃ (a' : Option Addr) (cap' : Nat), v = .slice a' xs.length cap' ∧ OwnN w.heap.size w' a' 3 1 cap' xs.length (xs.flatMap icell) ∧ w.grownBy w' none) := by
 refine Xp (n := 5) Try.func116 rfl Try.ntmps116 rfl ?_
 have hb0 := World.grownBy.refl w none
 refine Xa ?_
 refine wpo_assign (v := .slice none 0 0) rfl rfl ?_
 refine wpo_nil ?_
 refine Xa ?_
 refine wpo_move (v := .slice a xs.length c) rfl rfl ?_
 refine wpo_appendN (g := icell) (ys := []) (zs := xs) (lo := w.heap.size) Pm rfl Yb (by omega) V5 rfl rfl OwnN.nil (SlAt.low hs hb0) hc (by first | omega | exact Nat.le_of_ble_eq_true rfl | (simp only [List.length_nil, List.length_cons, List.length_append, List.length_replicate]; omega)) (by omega) hb0.size rfl ?_
 intro a101 cap102 w103 hO104 hg105 hor106
 have hb107 := low0 hb0 hg105
 refine wpo_assign (v := .slice a101 xs.length cap102) rfl rfl ?_
 refine wpo_nil ?_
 refine Xj ?_
 refine ⟨.slice a101 xs.length cap102, res1 rfl rfl, a101, cap102, rfl, hO104, hb107⟩
theorem N4 [Comp] (w : World) (q : MTh) (hq : ThAt w q) (hn : q.t.slots.length ≤ 1048576 ∧ q.t.queue.length ≤ 1048576) : CallsR Try.prog 86 #[.agg #[.int .i64 q.t.kind, .int .i64 q.t.lab.s, .int .i64 q.t.lab.v, .int .i64 q.t.ve, .int .i64 q.t.num, .slice q.sa q.t.slots.length q.sc, .slice q.qa q.t.queue.length q.qc, .int .i64 q.t.to]] w (fun v w' => ∃ (sa : Option Addr) (sc : Nat) (qa : Option Addr) (qc : Nat), v = .agg #[.int .i64 q.t.kind, .int .i64 q.t.lab.s, .int .i64 q.t.lab.v, .int .i64 q.t.ve, .int .i64 q.t.num, .slice sa q.t.slots.length sc, .slice qa q.t.queue.length qc, .int .i64 q.t.to] ∧ OwnN w.heap.size w' sa 74 5 sc q.t.slots.length (q.t.slots.flatMap Rt.cells) ∧ OwnN w.heap.size w' qa 3 1 qc q.t.queue.length (q.t.queue.flatMap icell) ∧ w.grownBy w' none) := by
 refine Xp (n := 12) Try.func86 rfl Try.ntmps86 rfl ?_
 have hb0 := World.grownBy.refl w none
 refine Xa ?_
 refine wpo_box (v := .agg #[.int .i64 q.t.kind, .int .i64 q.t.lab.s, .int .i64 q.t.lab.v, .int .i64 q.t.ve, .int .i64 q.t.num, .slice q.sa q.t.slots.length q.sc, .slice q.qa q.t.queue.length q.qc, .int .i64 q.t.to]) (cs := #[.int .i64 q.t.kind, .int .i64 q.t.lab.s, .int .i64 q.t.lab.v, .int .i64 q.t.ve, .int .i64 q.t.num, .slice q.sa q.t.slots.length q.sc, .slice q.qa q.t.queue.length q.qc, .int .i64 q.t.to]) rfl rfl rfl ?_
 intro B101 w102 hN103
 have hlB101 := X1 hN103 hb0
 have hb104 := low0 hb0 hN103.grw
 refine wpo_alloc (cs := #[.int .i64 0, .int .i64 0, .int .i64 0, .int .i64 0, .int .i64 0, .slice none 0 0, .slice none 0 0, .int .i64 0]) Q6 rfl rfl ?_
 intro B105 w106 hN107
 have hlB105 := X1 hN107 hb104
 have lt_B101_B105 := Xo hN107 (hN103.blk).lt
 have hb108 := low0 hb104 hN107.grw
 refine wpo_nil ?_
 refine Xa ?_
 refine wpo_fieldAddr (o' := 5) Y2 rfl rfl rfl ?_
 have k109 := (hN103.blk.grown0 hN107.grw)
 refine wpo_load1 (v := .slice q.sa q.t.slots.length q.sc) Jc rfl (k109.cell rfl) rfl ?_
 refine Xh (vs := [.slice q.sa q.t.slots.length q.sc]) Eu (Xb rfl Xg) rfl (Sy _ q.t.slots _ _ (ThAt.low hq hb108).1 (ThAt.low hq hb108).2.2.1 (by first | omega | exact Nat.le_of_ble_eq_true rfl | (simp only [List.length_nil, List.length_cons, List.length_append, List.length_replicate]; omega))) ?_
 rintro _ w114 ⟨a110, cap111, rfl, hO112, hg113⟩
 have hb115 := low0 hb108 hg113
 have hO116 := OwnN.mono hO112 hb108.size
 refine wpo_fieldAddr (o' := 5) Y2 rfl rfl rfl ?_
 have k117 := (k109.grown0 hg113)
 refine wpo_store1 (v := .slice a110 q.t.slots.length cap111) (cs' := #[.int .i64 q.t.kind, .int .i64 q.t.lab.s, .int .i64 q.t.lab.v, .int .i64 q.t.ve, .int .i64 q.t.num, .slice a110 q.t.slots.length cap111, .slice q.qa q.t.queue.length q.qc, .int .i64 q.t.to]) Jc rfl rfl rfl k117 (Nat.le_of_ble_eq_true rfl) rfl ?_
 intro w118 hS119
 have hb120 := low1 hb115 hS119.grw (by omega)
 refine wpo_nil ?_
 refine Xa ?_
 refine wpo_fieldAddr (o' := 6) Qk rfl rfl rfl ?_
 refine wpo_load1 (v := .slice q.qa q.t.queue.length q.qc) Jo rfl (hS119.blk.cell rfl) rfl ?_
 refine Xh (vs := [.slice q.qa q.t.queue.length q.qc]) Ff (Xb rfl Xg) rfl (Dc _ q.t.queue _ _ (ThAt.low hq hb120).2.1 (ThAt.low hq hb120).2.2.2 (by first | omega | exact Nat.le_of_ble_eq_true rfl | (simp only [List.length_nil, List.length_cons, List.length_append, List.length_replicate]; omega))) ?_
 rintro _ w125 ⟨a121, cap122, rfl, hO123, hg124⟩
 have hb126 := low0 hb120 hg124
 have hO127 := OwnN.mono hO123 hb120.size
 refine wpo_fieldAddr (o' := 6) Qk rfl rfl rfl ?_
 have k128 := (hS119.blk.grown0 hg124)
 refine wpo_store1 (v := .slice a121 q.t.queue.length cap122) (cs' := #[.int .i64 q.t.kind, .int .i64 q.t.lab.s, .int .i64 q.t.lab.v, .int .i64 q.t.ve, .int .i64 q.t.num, .slice a110 q.t.slots.length cap111, .slice a121 q.t.queue.length cap122, .int .i64 q.t.to]) Jo rfl rfl rfl k128 (Nat.le_of_ble_eq_true rfl) rfl ?_
 intro w129 hS130
 have hb131 := low1 hb126 hS130.grw (by omega)
 refine wpo_nil ?_
 refine Xa ?_
 refine wpo_loadn (vs := [.int .i64 q.t.kind, .int .i64 q.t.lab.s, .int .i64 q.t.lab.v, .int .i64 q.t.ve, .int .i64 q.t.num, .slice a110 q.t.slots.length cap111, .slice a121 q.t.queue.length cap122, .int .i64 q.t.to]) Xx rfl rfl (hS130.blk.rangeL 0 8 rfl) rfl ?_
 have k132 := ((((hN107.blk.grown0 hg113).gn hS119.grw).grown0 hg124).gn hS130.grw)
 refine wpo_storen (vs := [.int .i64 q.t.kind, .int .i64 q.t.lab.s, .int .i64 q.t.lab.v, .int .i64 q.t.ve, .int .i64 q.t.num, .slice a110 q.t.slots.length cap111, .slice a121 q.t.queue.length cap122, .int .i64 q.t.to]) (cs' := #[.int .i64 q.t.kind, .int .i64 q.t.lab.s, .int .i64 q.t.lab.v, .int .i64 q.t.ve, .int .i64 q.t.num, .slice a110 q.t.slots.length cap111, .slice a121 q.t.queue.length cap122, .int .i64 q.t.to]) Xx rfl rfl rfl (by simp [Value.oneCell']) k132 (Nat.le_of_ble_eq_true rfl) rfl ?_
 intro w133 hS134
 have hb135 := low1 hb131 hS134.grw (by omega)
 refine wpo_nil ?_
 refine Xj ?_
 refine ⟨.agg #[.int .i64 q.t.kind, .int .i64 q.t.lab.s, .int .i64 q.t.lab.v, .int .i64 q.t.ve, .int .i64 q.t.num, .slice a110 q.t.slots.length cap111, .slice a121 q.t.queue.length cap122, .int .i64 q.t.to], resC rfl (resCell_mk (vs := [.int .i64 q.t.kind, .int .i64 q.t.lab.s, .int .i64 q.t.lab.v, .int .i64 q.t.ve, .int .i64 q.t.num, .slice a110 q.t.slots.length cap111, .slice a121 q.t.queue.length cap122, .int .i64 q.t.to]) Xx rfl rfl (hS134.blk.rangeL 0 8 rfl)), a110, cap111, a121, cap122, rfl, (OwnN.typB (OwnN.typB ((OwnN.typB hO116 hS119.grw k117 (by decide)).grown0 hg124) hS130.grw k128 (by decide)) hS134.grw k132 (by decide)), (OwnN.typB (OwnN.typB hO127 hS130.grw k128 (by decide)) hS134.grw k132 (by decide)), hb135⟩
end Go.Dw.J
end
