/- The abstract interpreter over the loaded code, and parts of the proof that what it computes is what the call comes to. No condition beyond those that each theorem states. -/
import Derived.Test.YtkimdfpmblhapaaA1
import Derived.Laws.CopyRow
set_option linter.unusedVariables false
set_option linter.unusedSimpArgs false
set_option linter.constructorNameAsVariable false
/- The single operations, one by one. -/
namespace Go.Proofs.Ytkimdfpmblhapaa.Va
open Go.RowKit

section
variable {P : Program} {X : Nat → Nat → Prop} {w0 : World} {g0 g g' : Gho} {st st' : St} {a : Act} {w w' : World} {fc : FCfg} {o : Oper} {b : Bool} {out : Out}

theorem out_val {x : AV} (h : val x = some (b, out)) : b = true ∧ out = ⟨x, .none⟩ := by
  simp only [val, Option.some.injEq, Prod.mk.injEq] at h
  exact ⟨h.1.symm, h.2.symm⟩
theorem does_pure {x : AV} {v : Value} (hr : Rel P X w0 g0 g st a w) (hx : RV P X g st w x v) (h : (execOp a.eval o).run P w = .ok (.value v) w) : Does P X w0 g0 o (st.out o.dst ⟨x, .none⟩) a w :=
  does_value (st1 := st) hr hx h
theorem op_move {x : Operand} (ho : o.op = .move x ∨ o.op = .assign x) (hr : Rel P X w0 g0 g st a w) : Does P X w0 g0 o (st.out o.dst ⟨cast P o.type (st.ev x), .none⟩) a w :=
  does_pure hr (cast_rv (hr.ev x)) (by rcases ho with ho | ho <;> simp [execOp, ho, go_sem])
/-- A loaded value. -/
theorem run_loadVar_list {t : TypeId} {s : Sh} (ht : sh P t = some s) (ad : Addr) (cs : List Value) (hl : cs.length = s.ks.length) (hc : ∀ j v, cs[j]? = some v → w.cell? (ad.add j) = some v) :
    (loadVar t ad).run P w = .ok (if s.agg then .agg cs.toArray else cs.getD 0 undef) w := by
  obtain ⟨i, u, h1, h2, h3, h4, h5⟩ := sh_spec ht
  unfold loadVar
  rw [Sem.run_bind, run_isAgg ht, Result.andThen_ok]
  cases hs : s.agg with
  | true =>
    simp only [if_true]
    simp only [Sem.run_bind, run_sizeOf' ht, Result.andThen_ok, ← hl, run_loadCells_list w ad cs hc, Sem.run_pure]
  | false =>
    simp only [Bool.false_eq_true, if_false]
    have hl1 : cs.length = 1 := by rw [hl]; exact h5 hs
    obtain ⟨v, rfl⟩ : ∃ v, cs = [v] := by
      match cs, hl1 with
      | [v], _ => exact ⟨v, rfl⟩
    have hv := hc 0 v rfl
    have h0 : ad.add 0 = ad := by simp [Addr.add]
    rw [h0] at hv
    simp [load, Sem.run, hv]
theorem add_at (b o j : Nat) : (⟨b, o, none⟩ : Addr).add j = ⟨b, o + j, none⟩ := by unfold Addr.add; split <;> simp_all
theorem cell_at {b o : Nat} {cs : Array Value} {e : TypeId} {f : Nat × Nat} (h : w.heap[b]? = some (.cells cs e f)) : w.cell? ⟨b, o, none⟩ = cs[o]? := by
  simp [World.cell?, h]
theorem frozen_at {b o : Nat} {cs : Array Value} {e : TypeId} (h : w.heap[b]? = some (.cells cs e (0, 0))) : w.frozen? ⟨b, o, none⟩ = false := by
  simp [World.frozen?, h]
theorem shOne {t : TypeId} {s : Sh} (ht : sh P t = some s) : s.agg = false → s.ks.length = 1 := by
  obtain ⟨i, u, h1, h2, h3, h4, h5⟩ := sh_spec ht
  exact h5
/-- The value that is loaded from cells at an address. -/
theorem load_rv {t : TypeId} {s s0 : Sh} (ht : sh P t = some s) {d0 : D} {aps0 : List Ap} {cs : List Value} {off b o : Nat} (h : RC P X g st w s0 d0 aps0 cs) (hf : fits s0.ks off s = true)
    (hc : ∀ j v, cs[j]? = some v → w.cell? ⟨b, o + j, none⟩ = some v) : ∃ v, (loadVar t ⟨b, o + off, none⟩).run P w = .ok v w ∧ RV P X g st w (loadC s0 d0 aps0 off s) v := by
  obtain ⟨f1, f2, f3⟩ := fits_spec hf
  have hl := h.len
  refine ⟨_, run_loadVar_list ht ⟨b, o + off, none⟩ ((cs.drop off).take s.ks.length) (by simp [hl]; omega) (fun j v hv => ?_), ?_⟩
  · rw [add_at, Nat.add_assoc]
    have hj : j < ((cs.drop off).take s.ks.length).length := (List.getElem?_eq_some_iff.1 hv).1
    simp only [List.length_take, List.length_drop] at hj
    rw [List.getElem?_take_of_lt (by omega), List.getElem?_drop] at hv
    exact hc _ _ hv
  · have := loadC_rv h hf (shOne ht)
    have hg : ((cs.drop off).take s.ks.length).getD 0 undef = cs.getD off undef := by
      simp [List.getD_eq_getElem?_getD, List.getElem?_take_of_lt f3]
    rw [hg]
    exact this
theorem roAps_length : ∀ (ks : List LK), (roAps ks).length = ks.length
  | [] => rfl
  | _ :: r => by simp [roAps, roAps_length r]
theorem roAps_getD : ∀ (ks : List LK) (j : Nat), j < ks.length → (roAps ks).getD j .dead = .ro
  | [], j, h => by simp at h
  | _ :: r, 0, _ => rfl
  | _ :: r, j + 1, h => by
    simp only [roAps, List.getD_cons_succ]
    exact roAps_getD r j (by simpa using h)
theorem RL.one {W : Nat → Nat → Prop} {k : LK} {d : D} {v : Value} (h : RL P w W k d v) (hk : k ≠ .x) : v.oneCell' = true := by
  cases h with
  | x => exact absurd rfl hk
  | _ => rfl
theorem plain_ne {s : Sh} (h : s.plain = true) {j : Nat} {k : LK} (hj : s.ks[j]? = some k) : k ≠ .x := by
  rintro rfl
  unfold Sh.plain at h
  have : .x ∈ s.ks := List.mem_of_getElem? hj
  simp_all
theorem op_load {t : TypeId} {x : Operand} (ho : o.op = .load t x) (hcore : core P fc o st = some (b, out)) (hr : Rel P X w0 g0 g st a w) : Does P X w0 g0 o (st.out o.dst out) a w := by
  unfold core at hcore
  rw [ho] at hcore
  simp only at hcore
  have hx := hr.ev x
  have hexec : ∀ {b o' : Nat} {v : Value}, a.eval x = .pointer (some ⟨b, o', none⟩) → (loadVar t ⟨b, o', none⟩).run P w = .ok v w → (execOp a.eval o).run P w = .ok (.value v) w := fun h1 h2 => by
    simp only [execOp, ho, Instr.loadAt, Instr.sureAddr, h1, Sem.run_bind, Sem.run_pure, Result.andThen_ok, h2]
  split at hcore
  · rename_i d n off s he hs
    rw [he] at hx
    have hp := rv_x hx
    split at hcore
    · rename_i s0 d0 aps0 hob
      split at hcore
      · rename_i hf
        obtain ⟨_, rfl⟩ := out_val hcore
        obtain ⟨cs, e, h1, h2, h10, h3⟩ := hr.objs n _ hob
        generalize hv : a.eval x = v at hp
        cases hp with
        | ptr _ _ hn =>
          obtain ⟨u, h4, h5⟩ := load_rv hs h3 hf (b := g.mu n) (o := 0) (fun j v hj => by rw [cell_at h1, Nat.zero_add]; simpa using hj)
          rw [Nat.zero_add] at h4
          exact does_pure hr h5 (hexec hv h4)
      · cases hcore
    · cases hcore
  · rename_i s0 d off s he hs
    rw [he] at hx
    obtain ⟨hpl, b', o', hv, h2⟩ := hx
    split at hcore
    · rename_i hf
      obtain ⟨_, rfl⟩ := out_val hcore
      have hch : ∃ cs : List Value, cs.length = s0.ks.length ∧ ∀ j k, s0.ks[j]? = some k → w.cell? ⟨b', o' + j, none⟩ = some (cs.getD j undef) ∧ RL P w (Wr X g) k (s0.at d j) (cs.getD j undef) := by
        refine ⟨(List.range s0.ks.length).map fun j => (w.cell? ⟨b', o' + j, none⟩).getD undef, by simp, fun j k hj => ?_⟩
        obtain ⟨u, h3, h4, h5⟩ := h2 j k hj
        have hjl : j < s0.ks.length := (List.getElem?_eq_some_iff.1 hj).1
        have hg : ((List.range s0.ks.length).map fun j => (w.cell? ⟨b', o' + j, none⟩).getD undef).getD j undef = u := by
          simp [List.getD_eq_getElem?_getD, hjl, h3]
        rw [hg]
        exact ⟨h3, h5⟩
      obtain ⟨cs, hcl, hcs⟩ := hch
      have hrc : RC P X g st w s0 d (roAps s0.ks) cs := ⟨hcl, roAps_length _, fun j k hj => by
        have hjl : j < s0.ks.length := (List.getElem?_eq_some_iff.1 hj).1
        rw [roAps_getD _ _ hjl]
        exact ⟨(hcs j k hj).2.one (plain_ne hpl hj), (hcs j k hj).2⟩⟩
      obtain ⟨u, h4, h5⟩ := load_rv hs hrc hf (b := b') (o := o') (fun j v hj => by
        have hjl : j < cs.length := (List.getElem?_eq_some_iff.1 hj).1
        rw [(hcs j _ (List.getElem?_eq_getElem (by omega))).1]
        simp [List.getD_eq_getElem?_getD, hj])
      exact does_pure hr h5 (hexec hv h4)
    · cases hcore
  · rename_i m s0 d off s he hs
    rw [he] at hx
    split at hcore
    · rename_i hc
      simp only [Bool.and_eq_true] at hc
      have hf := hc.1
      obtain ⟨hpl, b', o', hv, _, h2⟩ := hx.2 hc.2
      obtain ⟨_, rfl⟩ := out_val hcore
      have hch : ∃ cs : List Value, cs.length = s0.ks.length ∧ ∀ j k, s0.ks[j]? = some k → w.cell? ⟨b', o' + j, none⟩ = some (cs.getD j undef) ∧ RL P w (Wr X g) k (s0.at d j) (cs.getD j undef) := by
        refine ⟨(List.range s0.ks.length).map fun j => (w.cell? ⟨b', o' + j, none⟩).getD undef, by simp, fun j k hj => ?_⟩
        obtain ⟨u, h3, h5⟩ := h2 j k hj
        have hjl : j < s0.ks.length := (List.getElem?_eq_some_iff.1 hj).1
        have hg : ((List.range s0.ks.length).map fun j => (w.cell? ⟨b', o' + j, none⟩).getD undef).getD j undef = u := by
          simp [List.getD_eq_getElem?_getD, hjl, h3]
        rw [hg]
        exact ⟨h3, h5⟩
      obtain ⟨cs, hcl, hcs⟩ := hch
      have hrc : RC P X g st w s0 d (roAps s0.ks) cs := ⟨hcl, roAps_length _, fun j k hj => by
        have hjl : j < s0.ks.length := (List.getElem?_eq_some_iff.1 hj).1
        rw [roAps_getD _ _ hjl]
        exact ⟨(hcs j k hj).2.one (plain_ne hpl hj), (hcs j k hj).2⟩⟩
      obtain ⟨u, h4, h5⟩ := load_rv hs hrc hf (b := b') (o := o') (fun j v hj => by
        have hjl : j < cs.length := (List.getElem?_eq_some_iff.1 hj).1
        rw [(hcs j _ (List.getElem?_eq_getElem (by omega))).1]
        simp [List.getD_eq_getElem?_getD, hj])
      exact does_pure hr h5 (hexec hv h4)
    · cases hcore
  · cases hcore

theorem op_nilCheck {x : Operand} (ho : o.op = .nilCheck x) (hcore : core P fc o st = some (b, out)) (hr : Rel P X w0 g0 g st a w) : Does P X w0 g0 o (st.out o.dst out) a w := by
  unfold core at hcore
  rw [ho] at hcore
  simp only at hcore
  have hx := hr.ev x
  split at hcore
  · rename_i d n off he
    obtain ⟨_, rfl⟩ := out_val hcore
    rw [he] at hx
    have hp := rv_x hx
    refine does_pure (v := a.eval x) hr hx ?_
    generalize hv : a.eval x = v at hp
    cases hp with
    | ptr _ _ hn => simp only [execOp, ho, hv, Sem.run_pure]
  · rename_i s d off he
    obtain ⟨_, rfl⟩ := out_val hcore
    rw [he] at hx
    refine does_pure (v := a.eval x) hr hx ?_
    obtain ⟨_, b', o', hv, _⟩ := hx
    simp only [execOp, ho, hv, Sem.run_pure]
  · rename_i m s d off he
    split at hcore
    · rename_i hl
      obtain ⟨_, rfl⟩ := out_val hcore
      rw [he] at hx
      refine does_pure (v := a.eval x) hr hx ?_
      obtain ⟨_, b', o', hv, _⟩ := hx.2 hl
      simp only [execOp, ho, hv, Sem.run_pure]
    · cases hcore
  · cases hcore
theorem nzT_spec {t : TypeId} (h : nzT P t = true) : ∃ i, P.info? t = some i ∧ i.size ≠ 0 := by
  unfold nzT sizeT at h
  cases hi : P.info? t with
  | none => simp [hi] at h
  | some i =>
    refine ⟨i, rfl, fun h0 => ?_⟩
    simp [hi, h0] at h
theorem run_sizeOf_info {t : TypeId} {i : TypeInfo} (h : P.info? t = some i) (w : World) : (sizeOf t).run P w = .ok i.size w := by
  simp [sizeOf, typeInfo, h, Sem.run_bind]
theorem op_fieldAddr {t : TypeId} {x : Operand} {f : Nat} (ho : o.op = .fieldAddr t x f) (hcore : core P fc o st = some (b, out)) (hr : Rel P X w0 g0 g st a w) : Does P X w0 g0 o (st.out o.dst out) a w := by
  unfold core at hcore
  rw [ho] at hcore
  simp only at hcore
  have hx := hr.ev x
  have hexec : ∀ {fs : Array Field} {fd : Field} {b' o' : Nat}, P.underlying t = some (.struct fs) → fs[f]? = some fd → nzT P fd.type = true → a.eval x = .pointer (some ⟨b', o', none⟩) →
      (execOp a.eval o).run P w = .ok (.value (.pointer (some ⟨b', o' + fd.offset, none⟩))) w := fun h1 h2 h3 h4 => by
    obtain ⟨i, h5, h6⟩ := nzT_spec h3
    simp only [execOp, ho, Instr.fieldAt, Sem.run_bind, run_underlying h1, Result.andThen_ok, h2, Instr.sureAddr, h4, Sem.run_pure, fieldPlace, run_sizeOf_info h5, h6, if_false, add_at]
  split at hcore
  · rename_i fs d n off hu he
    rw [he] at hx
    have hp := rv_x hx
    split at hcore
    · rename_i fd hfd
      split at hcore
      · rename_i hz
        obtain ⟨_, rfl⟩ := out_val hcore
        generalize hv : a.eval x = v at hp
        cases hp with
        | ptr _ _ hn => exact does_pure hr (mk_x (RX.ptr n _ hn)) (hexec hu hfd hz hv)
      · cases hcore
    · cases hcore
  · rename_i fs s d off hu he
    rw [he] at hx
    obtain ⟨hpl, b', o', hv, h2⟩ := hx
    split at hcore
    · rename_i fd hfd
      split at hcore
      · rename_i hz
        obtain ⟨_, rfl⟩ := out_val hcore
        exact does_pure hr ⟨hpl, b', o', by rw [Nat.add_assoc], h2⟩ (hexec hu hfd hz hv)
      · cases hcore
    · cases hcore
  · rename_i fs m s d off hu he
    rw [he] at hx
    split at hcore
    · rename_i fd hfd
      split at hcore
      · rename_i hz
        simp only [Bool.and_eq_true] at hz
        obtain ⟨_, rfl⟩ := out_val hcore
        obtain ⟨hpl, b', o', hv, h2, h3⟩ := hx.2 hz.2
        exact does_pure hr ⟨hx.1, fun _ => ⟨hpl, b', o', by rw [Nat.add_assoc], h2, h3⟩⟩ (hexec hu hfd hz.1 hv)
      · cases hcore
    · cases hcore
  · cases hcore
theorem op_extract {x : Operand} {i : Nat} (ho : o.op = .extract x i) (hcore : core P fc o st = some (b, out)) (hr : Rel P X w0 g0 g st a w) : Does P X w0 g0 o (st.out o.dst out) a w := by
  unfold core at hcore
  rw [ho] at hcore
  simp only at hcore
  have hx := hr.ev x
  split at hcore
  · rename_i l he
    rw [he] at hx
    obtain ⟨vs, hv, h2⟩ := hx
    split at hcore
    · rename_i y hy
      obtain ⟨_, rfl⟩ := out_val hcore
      obtain ⟨u, h3, h4⟩ := h2 i y hy
      refine does_pure (v := u) hr ?_ ?_
      · cases y with
        | tup l => exact h4.elim
        | _ => exact h4
      · simp only [execOp, ho, Instr.extract, hv, h3, Sem.run_bind, Sem.run_pure, Result.andThen_ok]
    · cases hcore
  · cases hcore
theorem op_field {t : TypeId} {x : Operand} {f : Nat} (ho : o.op = .field t x f) (hcore : core P fc o st = some (b, out)) (hr : Rel P X w0 g0 g st a w) : Does P X w0 g0 o (st.out o.dst out) a w := by
  unfold core at hcore
  rw [ho] at hcore
  simp only at hcore
  have hx := hr.ev x
  split at hcore
  · rename_i fs s0 d aps hu he
    rw [he] at hx
    obtain ⟨hag, hrc⟩ := hx
    split at hcore
    · rename_i fd hfd
      split at hcore
      · rename_i s hs
        split at hcore
        · rename_i hc
          simp only [Bool.and_eq_true] at hc
          obtain ⟨_, rfl⟩ := out_val hcore
          rw [hc.1] at hag
          generalize hv : a.eval x = v at hag hrc
          cases v with
          | agg cs =>
            obtain ⟨f1, f2, f3⟩ := fits_spec hc.2
            have hl := hrc.len
            simp only [Value.cells, Array.length_toList] at hl
            refine does_pure hr (loadC_rv hrc hc.2 (shOne hs)) ?_
            simp only [execOp, ho, Instr.field, Sem.run_bind, run_underlying hu, Result.andThen_ok, hfd, asAgg, hv, Sem.run_pure, part, run_isAgg hs]
            cases hsa : s.agg with
            | true =>
              simp only [if_true, Sem.run_bind, run_sizeOf' hs, Result.andThen_ok, Sem.run_pure, Value.cells]
              congr 4
              apply Array.ext'
              simp [Array.toList_extract, List.extract_eq_take_drop]
            | false =>
              simp only [Bool.false_eq_true, if_false, Value.cells]
              have : cs[fd.offset]? = some (cs.toList.getD fd.offset undef) := by
                rw [List.getD_eq_getElem?_getD, Array.getElem?_toList]
                rw [Array.getElem?_eq_getElem (by omega)]; rfl
              rw [this]
              rfl
          | _ => simp [isAggV] at hag
        · cases hcore
      · cases hcore
    · cases hcore
  · cases hcore
end
end Go.Proofs.Ytkimdfpmblhapaa.Va

/- The single operations, one by one: slices, numbers, texts. -/
set_option linter.unusedVariables false
set_option linter.unusedSimpArgs false
namespace Go.Proofs.Ytkimdfpmblhapaa.Va
open Go.RowKit

section
variable {P : Program} {X : Nat → Nat → Prop} {w0 : World} {g0 g g' : Gho} {st st' : St} {a : Act} {w w' : World} {fc : FCfg} {o : Oper} {b : Bool} {out : Out}

/-- What a slice of data is. -/
structure SlD (P : Program) (w : World) (W : Nat → Nat → Prop) (s : Sh) (d : D) (v : Value) (a : Option Addr) (n c b o : Nat) (u : Nat → Nat → Value) : Prop where
  hv : v = .slice a n c
  hn : d.toL.length = n
  hc : n ≤ c
  hm : n ≤ 140737488355328
  ha : 0 < n → a = some ⟨b, o, none⟩
  cell : ∀ i j, i < n → j < s.ks.length → w.cell? ⟨b, o + (i * s.ks.length + j), none⟩ = some (u i j) ∧ ¬ W b (o + (i * s.ks.length + j))
  rl : ∀ i j k, i < n → s.ks[j]? = some k → RL P w W k (s.at (d.toL.getD i (.int 0)) j) (u i j)
theorem rl_sl {W : Nat → Nat → Prop} {e : TypeId} {s : Sh} {d : D} {v : Value} (hs : shp P e = some s) (h : RL P w W (.sl e) d v) : ∃ a n c b o u, SlD P w W s d v a n c b o u := by
  cases h with
  | nil _ _ h => exact ⟨none, 0, 0, 0, 0, fun _ _ => undef, rfl, by rw [h]; rfl, Nat.le_refl _, by omega, by omega, fun i j hi => by omega, fun i j k hi => by omega⟩
  | sl _ s' _ a n c b o u h1 h2 h3 h4 h5 h6 h7 =>
    rw [hs] at h1
    simp only [Option.some.injEq] at h1
    subst h1
    exact ⟨a, n, c, b, o, u, rfl, h2, h3, h4, h5, h6, h7⟩
theorem SlD.mk_rl {W : Nat → Nat → Prop} {e : TypeId} {s : Sh} {d : D} {v : Value} {a : Option Addr} {n c b o : Nat} {u : Nat → Nat → Value} (hs : shp P e = some s) (h : SlD P w W s d v a n c b o u) : RL P w W (.sl e) d v := by
  rw [h.hv]
  exact .sl e s d a n c b o u hs h.hn h.hc h.hm h.ha h.cell h.rl
theorem inR_spec {i : Int} {n : Nat} (h : inR i n = true) : 0 ≤ i ∧ i < n := by
  unfold inR at h
  simpa using h
theorem op_indexAddr {t : TypeId} {x i : Operand} (ho : o.op = .indexAddr t x i) (hcore : core P fc o st = some (b, out)) (hb : b = true) (hr : Rel P X w0 g0 g st a w) : Does P X w0 g0 o (st.out o.dst out) a w := by
  unfold core at hcore
  rw [ho] at hcore
  simp only at hcore
  have hx := hr.ev x
  have hi := hr.ev i
  split at hcore
  · rename_i e e' d ap k di hu he hei
    rw [he] at hx
    rw [hei] at hi
    split at hcore
    · rename_i hee
      subst hee
      split at hcore
      · rename_i s hs
        split at hcore
        · rename_i hap
          simp only [Option.some.injEq, Prod.mk.injEq] at hcore
          obtain ⟨hbb, rfl⟩ := hcore
          rw [← hbb] at hb
          obtain ⟨h0, h1⟩ := inR_spec hb
          have hiv := rv_int hi
          obtain ⟨a', n, c, b', o', u, hv, hn, hc, hm, ha, hcell, hrl⟩ := rl_sl hs (data_rl hap (one_cell hx))
          have hlt : di.toInt.toNat < n := by omega
          have ha' := ha (by omega)
          have hsh := (shp_sh hs).1
          refine does_pure (v := .pointer (some ⟨b', o' + di.toInt.toNat * s.ks.length, none⟩)) hr ⟨(shp_sh hs).2, b', o' + di.toInt.toNat * s.ks.length, rfl, fun j k hj => ?_⟩ ?_
          · have hjl : j < s.ks.length := (List.getElem?_eq_some_iff.1 hj).1
            have h2 := hcell _ j hlt hjl
            rw [← Nat.add_assoc] at h2
            exact ⟨_, h2.1, h2.2, hrl _ j k hlt hj⟩
          · have : (0 : Int) ≤ di.toInt ∧ di.toInt < (n : Int) := by omega
            simp only [execOp, ho, Instr.indexAt, hiv, hv, asIntOf, Sem.run_bind, Sem.run_pure, Result.andThen_ok, run_underlying hu, ha', if_pos this, run_sizeOf' hsh, add_at]
        · split at hcore
          · rename_i m
            split at hcore
            · rename_i hl
              simp only [Option.some.injEq, Prod.mk.injEq] at hcore
              obtain ⟨hbb, rfl⟩ := hcore
              rw [← hbb] at hb
              obtain ⟨h0, h1⟩ := inR_spec hb
              have hiv := rv_int hi
              have hra := (one_cell hx).2
              obtain ⟨_, e', s', a', n, c, b', o', u, hke, hs', hv, hrho, hn, hc, hm, ha, hcell, hrl⟩ := hra.2 hl
              cases hke
              rw [hs] at hs'
              cases hs'
              have hlt : di.toInt.toNat < n := by omega
              obtain ⟨ha', how⟩ := ha (by omega)
              have hsh := (shp_sh hs).1
              refine does_pure (v := .pointer (some ⟨b', o' + di.toInt.toNat * s.ks.length, none⟩)) hr ⟨hra.1, fun _ => ⟨(shp_sh hs).2, b', o' + di.toInt.toNat * s.ks.length, rfl, how, fun j k hj => ?_⟩⟩ ?_
              · have hjl : j < s.ks.length := (List.getElem?_eq_some_iff.1 hj).1
                have h2 := hcell _ j hlt hjl
                rw [← Nat.add_assoc] at h2
                exact ⟨_, h2, hrl _ j k hlt hj⟩
              · have : (0 : Int) ≤ di.toInt ∧ di.toInt < (n : Int) := by omega
                simp only [execOp, ho, Instr.indexAt, hiv, hv, asIntOf, Sem.run_bind, Sem.run_pure, Result.andThen_ok, run_underlying hu, ha', if_pos this, run_sizeOf' hsh, add_at]
            · cases hcore
          · cases hcore
      · cases hcore
    · cases hcore
  · cases hcore
theorem op_index {t : TypeId} {x i : Operand} (ho : o.op = .index t x i) (hcore : core P fc o st = some (b, out)) (hb : b = true) (hr : Rel P X w0 g0 g st a w) : Does P X w0 g0 o (st.out o.dst out) a w := by
  unfold core at hcore
  rw [ho] at hcore
  simp only at hcore
  have hx := hr.ev x
  have hi := hr.ev i
  split at hcore
  · rename_i d k di hu he hei
    rw [he] at hx
    rw [hei] at hi
    simp only [Option.some.injEq, Prod.mk.injEq] at hcore
    obtain ⟨hbb, rfl⟩ := hcore
    rw [← hbb] at hb
    obtain ⟨h0, h1⟩ := inR_spec hb
    have hiv := rv_int hi
    have hxv := rv_str hx
    have hlt : di.toInt.toNat < d.toStr.size := by omega
    refine does_pure (v := .int .u8 (byteAt d.toStr di.toInt)) hr (mk_int .u8 (.int _)) ?_
    simp only [execOp, ho, Instr.index, hiv, hxv, asIntOf, Sem.run_bind, Sem.run_pure, Result.andThen_ok, run_underlying hu, if_pos h0, byteAt]
    rw [getElem?_pos d.toStr _ hlt]
    rfl
  · cases hcore
/-! Numbers, texts, truths. -/
theorem eqGuard_int {op : BinOp} {t : TypeId} {x y : Operand} {k k' : IntKind} {m n : Int} : (eqGuard op t x y (.int k m) (.int k' n)).run P w = .ok () w := by
  unfold eqGuard
  split <;> simp [Sem.run_bind]
theorem eqGuard_str {op : BinOp} {t : TypeId} {x y : Operand} {m n : ByteArray} : (eqGuard op t x y (.string m) (.string n)).run P w = .ok () w := by
  unfold eqGuard
  split <;> simp [Sem.run_bind]
theorem eqGuard_bool {op : BinOp} {t : TypeId} {x y : Operand} {m n : Bool} : (eqGuard op t x y (.bool m) (.bool n)).run P w = .ok () w := by
  unfold eqGuard
  split <;> simp [Sem.run_bind]
theorem binInt_run {op : BinOp} {k : IntKind} {t : TypeId} {m n : Int} {c : Bool} {d : D} (h : binInt op k m n = some (c, d)) (hc : c = true) :
    (binOp op t (.int k m) (.int k n)).run P w = .ok (if isCmp op then .bool d.toBool else .int k d.toInt) w := by
  subst hc
  unfold binInt at h
  split at h <;> simp only [Option.some.injEq, Prod.mk.injEq, decide_eq_true_eq, true_and, reduceCtorEq] at h
  all_goals first
    | (obtain ⟨h1, rfl⟩ := h; simp [binOp, Op.intDiv, h1, isCmp, D.toInt])
    | (subst h; simp [binOp, Op.intArith, Op.intCmp, isCmp, D.toInt, D.toBool])
theorem str_eq (m n : ByteArray) : (m.toList == n.toList) = decide (m = n) := by
  rw [ByteArray.toList_eq, ByteArray.toList_eq, Bool.eq_iff_iff]
  simp only [beq_iff_eq, decide_eq_true_eq]
  constructor
  · intro h
    cases m; cases n
    simp only [ByteArray.mk.injEq]
    exact Array.ext' h
  · rintro rfl; rfl
theorem binStr_run {op : BinOp} {t : TypeId} {m n : ByteArray} {c : Bool} {d : D} (h : binStr op m n = some (c, d)) (hc : c = true) :
    (binOp op t (.string m) (.string n)).run P w = .ok (if isCmp op then .bool d.toBool else .string d.toStr) w := by
  subst hc
  unfold binStr at h
  split at h <;> simp only [Option.some.injEq, Prod.mk.injEq, decide_eq_true_eq, true_and, reduceCtorEq] at h
  · obtain ⟨h1, rfl⟩ := h
    have hmax : IntKind.i64.max = 9223372036854775807 := by decide
    have : ¬ (((m.size + n.size : Nat) : Int) > IntKind.i64.max) := by rw [hmax]; omega
    simp only [binOp, Op.stringOp, if_neg this]
    rfl
  · subst h
    simp [binOp, Op.stringOp, isCmp, D.toBool, str_eq]
  · subst h
    simp [binOp, Op.stringOp, isCmp, D.toBool, str_eq]
theorem op_binOp {op : BinOp} {t yt : TypeId} {x y : Operand} (ho : o.op = .binOp op t x y yt) (hcore : core P fc o st = some (b, out)) (hb : b = true) (hr : Rel P X w0 g0 g st a w) : Does P X w0 g0 o (st.out o.dst out) a w := by
  unfold core at hcore
  rw [ho] at hcore
  simp only at hcore
  have hx := hr.ev x
  have hy := hr.ev y
  split at hcore
  · rename_i k p k' q hex hey
    rw [hex] at hx
    rw [hey] at hy
    have hxv := rv_int hx
    have hyv := rv_int hy
    split at hcore
    · rename_i hk
      subst hk
      split at hcore
      · rename_i c d hbi
        simp only [Option.some.injEq, Prod.mk.injEq] at hcore
        obtain ⟨rfl, rfl⟩ := hcore
        have hrun := binInt_run (P := P) (w := w) (t := t) hbi hb
        refine does_pure (v := if isCmp op then .bool d.toBool else .int k d.toInt) hr ?_ ?_
        · split
          · exact mk_bool d
          · exact mk_int k d
        · simp only [execOp, ho, hxv, hyv, Sem.run_bind, eqGuard_int, Result.andThen_ok, hrun, Sem.run_pure]
      · cases hcore
    · cases hcore
  · rename_i p q hex hey
    rw [hex] at hx
    rw [hey] at hy
    have hxv := rv_str hx
    have hyv := rv_str hy
    split at hcore
    · rename_i c d hbi
      simp only [Option.some.injEq, Prod.mk.injEq] at hcore
      obtain ⟨rfl, rfl⟩ := hcore
      have hrun := binStr_run (P := P) (w := w) (t := t) hbi hb
      refine does_pure (v := if isCmp op then .bool d.toBool else .string d.toStr) hr ?_ ?_
      · split
        · exact mk_bool d
        · exact mk_str d
      · simp only [execOp, ho, hxv, hyv, Sem.run_bind, eqGuard_str, Result.andThen_ok, hrun, Sem.run_pure]
    · cases hcore
  · rename_i p q hex hey
    rw [hex] at hx
    rw [hey] at hy
    have hxv := rv_bool hx
    have hyv := rv_bool hy
    split at hcore
    · rename_i hbt
      have hu : P.underlying t = some .bool := by
        unfold isBoolT at hbt
        split at hbt
        · assumption
        · cases hbt
      split at hcore
      · rename_i c d hbi
        simp only [Option.some.injEq, Prod.mk.injEq] at hcore
        obtain ⟨rfl, rfl⟩ := hcore
        refine does_pure (v := .bool d.toBool) hr (mk_bool d) ?_
        have heq : ∀ m n : Bool, (Op.equal t (.bool m) (.bool n)).run P w = .ok (m == n) w := fun m n => by
          unfold Op.equal Op.maxDepth Op.equalIn
          simp only [Sem.run_bind, run_underlying hu, Result.andThen_ok, Sem.run_pure]
        unfold binBool at hbi
        split at hbi
        · simp only [Option.some.injEq, Prod.mk.injEq] at hbi
          obtain ⟨_, rfl⟩ := hbi
          simp only [execOp, ho, hxv, hyv, Sem.run_bind, eqGuard_bool, Result.andThen_ok, binOp, heq, Sem.run_pure]
          rfl
        · simp only [Option.some.injEq, Prod.mk.injEq] at hbi
          obtain ⟨_, rfl⟩ := hbi
          simp only [execOp, ho, hxv, hyv, Sem.run_bind, eqGuard_bool, Result.andThen_ok, binOp, heq, Sem.run_pure]
          rfl
        · cases hbi
      · cases hcore
    · cases hcore
  · cases hcore
theorem op_unOp {op : UnOp} {t : TypeId} {x : Operand} (ho : o.op = .unOp op t x) (hcore : core P fc o st = some (b, out)) (hr : Rel P X w0 g0 g st a w) : Does P X w0 g0 o (st.out o.dst out) a w := by
  unfold core at hcore
  rw [ho] at hcore
  simp only at hcore
  have hx := hr.ev x
  split at hcore
  · rename_i p hex
    rw [hex] at hx
    obtain ⟨_, rfl⟩ := out_val hcore
    refine does_pure (v := .bool (!p.toBool)) hr (mk_bool (.bool _)) ?_
    simp only [execOp, ho, rv_bool hx, Op.unary, Sem.run_bind, Sem.run_pure, Result.andThen_ok]
  · rename_i k p hex
    rw [hex] at hx
    obtain ⟨_, rfl⟩ := out_val hcore
    refine does_pure (v := .int k (k.wrap (0 - p.toInt))) hr (mk_int k (.int _)) ?_
    simp only [execOp, ho, rv_int hx, Op.unary, Op.intArith, Sem.run_bind, Sem.run_pure, Result.andThen_ok]
  · cases hcore
theorem op_convert {s d : TypeId} {x : Operand} (ho : o.op = .convert s d x) (hcore : core P fc o st = some (b, out)) (hr : Rel P X w0 g0 g st a w) : Does P X w0 g0 o (st.out o.dst out) a w := by
  unfold core at hcore
  rw [ho] at hcore
  simp only at hcore
  have hx := hr.ev x
  split at hcore
  · rename_i k1 k k2 p h1 h2 hex
    rw [hex] at hx
    obtain ⟨_, rfl⟩ := out_val hcore
    refine does_pure (v := .int k (k.wrap p.toInt)) hr (mk_int k (.int _)) ?_
    simp only [execOp, ho, rv_int hx, convert, Sem.run_bind, run_underlying h1, run_underlying h2, Result.andThen_ok, Conv.intToInt, Sem.run_pure]
  · rename_i p h1 h2 hex
    rw [hex] at hx
    obtain ⟨_, rfl⟩ := out_val hcore
    refine does_pure (v := .string p.toStr) hr (mk_str p) ?_
    simp only [execOp, ho, rv_str hx, convert, Sem.run_bind, run_underlying h1, run_underlying h2, Result.andThen_ok, Sem.run_pure]
  · cases hcore
/-- len. -/
theorem op_len {c : Call} {x : Operand} (ho : o.op = .call c) (hc : c.callee = .builtin .len) (ha : c.args.toList = [x]) (hcore : core P fc o st = some (b, out)) (hr : Rel P X w0 g0 g st a w) : Does P X w0 g0 o (st.out o.dst out) a w := by
  unfold core at hcore
  rw [ho] at hcore
  simp only [hc, ha] at hcore
  have hx := hr.ev x
  have hargs : c.args.map a.eval = #[a.eval x] := by
    have : c.args = #[x] := by apply Array.ext'; simpa using ha
    rw [this]; simp
  have hexec : ∀ {v : Value}, (Builtin.len_ c.argTypes o.type #[a.eval x]).run P w = .ok v w → (execOp a.eval o).run P w = .ok (.value v) w := fun h => by
    simp only [execOp, ho, resolve, hc, Sem.run_bind, Sem.run_pure, Result.andThen_ok, invoke, builtin, hargs, h]
  have htt : ∀ {u : TypeDesc}, c.argTypes[0]?.bind P.underlying = some u → ∃ t, c.argTypes[0]? = some t ∧ P.underlying t = some u := fun h => by
    cases hq : c.argTypes[0]? with
    | none => rw [hq] at h; cases h
    | some t => rw [hq] at h; exact ⟨t, rfl, h⟩
  split at hcore
  · rename_i d hu hex
    rw [hex] at hx
    obtain ⟨_, rfl⟩ := out_val hcore
    obtain ⟨t, ht, hu⟩ := htt hu
    refine does_pure (v := goInt d.toStr.size) hr (mk_int .i64 (.int _)) (hexec ?_)
    simp only [Builtin.len_, ht, rv_str hx, Sem.run_bind, run_underlying hu, Result.andThen_ok, List.getElem?_toArray, List.getElem?_cons_zero, Sem.run_pure]
  · rename_i e e' d ap hu hex
    rw [hex] at hx
    obtain ⟨t, ht, hu⟩ := htt hu
    split at hcore
    · rename_i hap
      obtain ⟨_, rfl⟩ := out_val hcore
      have hv : ∃ a' c', a.eval x = .slice a' d.toL.length c' := by
        have hra := one_cell hx
        have hrl : RL P w (Wr X g) (.sl e') d (a.eval x) ∨ ∃ m, RRow P g w (Wr X g) m (.sl e') d (a.eval x) := by
          cases ap with
          | arr m =>
            refine .inr ⟨m, (hra.2.2 ?_).2⟩
            unfold okAp at hap
            unfold liveTk
            exact hap
          | dead => cases hap
          | x v => cases hap
          | _ => exact .inl (data_rl rfl hra)
        rcases hrl with hrl | ⟨m, hrow⟩
        · generalize a.eval x = v at hrl
          cases hrl with
          | nil _ _ h => exact ⟨none, 0, by rw [h]; rfl⟩
          | sl _ _ _ a' n c' b' o' u h1 h2 => exact ⟨a', c', by rw [h2]⟩
        · obtain ⟨_, _, a', n, c', _, _, _, _, _, hv, _, hn, _⟩ := hrow
          exact ⟨a', c', by rw [hv, hn]⟩
      obtain ⟨a', c', hv⟩ := hv
      refine does_pure (v := goInt d.toL.length) hr (mk_int .i64 (.int _)) (hexec ?_)
      simp only [Builtin.len_, ht, hv, Sem.run_bind, run_underlying hu, Result.andThen_ok, List.getElem?_toArray, List.getElem?_cons_zero, Sem.run_pure]
    · cases hcore
  · cases hcore
end
end Go.Proofs.Ytkimdfpmblhapaa.Va

/- The single operations, one by one: cuts, structs and slices that are built, functions. -/
set_option linter.unusedVariables false
set_option linter.unusedSimpArgs false
namespace Go.Proofs.Ytkimdfpmblhapaa.Va
open Go.RowKit

section
variable {P : Program} {X : Nat → Nat → Prop} {w0 : World} {g0 g g' : Gho} {st st' : St} {a : Act} {w w' : World} {fc : FCfg} {o : Oper} {b : Bool} {out : Out}

theorem sliceBound_run {k : IntKind} {i : Int} {y : Nat} {code : BoundsCode} (h : 0 ≤ i ∧ i ≤ y) : (Instr.sliceBound (.int k i) y code).run P w = .ok i.toNat w := by
  simp only [Instr.sliceBound, asIntOf, Sem.run_bind, Sem.run_pure, Result.andThen_ok, if_pos h]
/-- A bound of a cut: given, or the one that goes without saying. -/
theorem bound_val (hr : Rel P X w0 g0 g st a w) {lo : Option Operand} {z : Int} {k : IntKind} {l : D} (h : (lo.map st.ev).getD (sc (.int .i64) (.int z)) = .dt ⟨false, [.int k]⟩ l [.ro]) :
    (∃ x, lo = some x ∧ a.eval x = .int k l.toInt) ∨ (lo = none ∧ l.toInt = z) := by
  cases lo with
  | none =>
    refine .inr ⟨rfl, ?_⟩
    simp only [Option.map_none, Option.getD_none, sc, AV.dt.injEq, Sh.mk.injEq, List.cons.injEq, LK.int.injEq] at h
    rw [← h.2.1]; rfl
  | some x =>
    refine .inl ⟨x, rfl, ?_⟩
    simp only [Option.map_some, Option.getD_some] at h
    have := hr.ev x
    rw [h] at this
    exact rv_int this
theorem sliceBounds_run {isS : Bool} {len cap : Nat} {lo hi mx : Option Value} {l h m : Int} {k1 k2 k3 : IntKind}
    (hl : lo = some (.int k1 l) ∨ lo = none ∧ l = 0) (hh : hi = some (.int k2 h) ∨ hi = none ∧ h = len ∧ mx = none) (hm : mx = some (.int k3 m) ∨ mx = none ∧ m = cap)
    (h0 : 0 ≤ l) (h1 : l ≤ h) (h2 : h ≤ m) (h3 : m ≤ cap) : (Instr.sliceBounds isS len cap lo hi mx).run P w = .ok (l.toNat, h.toNat, m.toNat) w := by
  unfold Instr.sliceBounds
  have e1 : (h.toNat : Int) = h := by omega
  rcases hm with rfl | ⟨rfl, rfl⟩
  · have q1 : (0 ≤ m ∧ m ≤ (cap : Int)) := by omega
    simp only [Sem.run_bind, sliceBound_run q1, Result.andThen_ok]
    rcases hh with rfl | ⟨_, _, hn⟩
    · have q2 : (0 ≤ h ∧ h ≤ (m.toNat : Int)) := by omega
      simp only [Sem.run_bind, sliceBound_run q2, Result.andThen_ok]
      rcases hl with rfl | ⟨rfl, rfl⟩
      · have q3 : (0 ≤ l ∧ l ≤ (h.toNat : Int)) := by omega
        simp only [Sem.run_bind, sliceBound_run q3, Result.andThen_ok, Sem.run_pure]
      · simp only [Sem.run_bind, Sem.run_pure, Result.andThen_ok]; rfl
    · cases hn
  · simp only [Sem.run_bind, Sem.run_pure, Result.andThen_ok]
    rcases hh with rfl | ⟨rfl, rfl, _⟩
    · have q2 : (0 ≤ h ∧ h ≤ (cap : Int)) := by omega
      simp only [Sem.run_bind, sliceBound_run q2, Result.andThen_ok]
      rcases hl with rfl | ⟨rfl, rfl⟩
      · have q3 : (0 ≤ l ∧ l ≤ (h.toNat : Int)) := by omega
        simp only [Sem.run_bind, sliceBound_run q3, Result.andThen_ok, Sem.run_pure]; rfl
      · simp only [Sem.run_bind, Sem.run_pure, Result.andThen_ok]; rfl
    · simp only [Sem.run_bind, Sem.run_pure, Result.andThen_ok]
      rcases hl with rfl | ⟨rfl, rfl⟩
      · have q3 : (0 ≤ l ∧ l ≤ (len : Int)) := by omega
        simp only [Sem.run_bind, sliceBound_run q3, Result.andThen_ok, Sem.run_pure]; rfl
      · simp only [Sem.run_bind, Sem.run_pure, Result.andThen_ok]; rfl
/-- A cut of a slice of data. -/
theorem SlD.cut {W : Nat → Nat → Prop} {s : Sh} {d : D} {v : Value} {a : Option Addr} {n c b o : Nat} {u : Nat → Nat → Value} (h : SlD P w W s d v a n c b o u) (l i m : Nat) (h1 : l ≤ i) (h2 : i ≤ n) (h3 : i ≤ m) (h4 : m ≤ c) :
    SlD P w W s (.sl ((d.toL.take i).drop l)) (.slice (if m = l then a else a.map (·.add (l * s.ks.length))) (i - l) (m - l)) (if m = l then a else a.map (·.add (l * s.ks.length))) (i - l) (m - l) b (o + l * s.ks.length) (fun p q => u (l + p) q) where
  hv := rfl
  hn := by
    have := h.hn
    show ((d.toL.take i).drop l).length = i - l
    simp only [List.length_drop, List.length_take]
    omega
  hc := by omega
  hm := by have := h.hm; omega
  ha := fun hp => by
    rw [if_neg (by omega), h.ha (by omega)]
    simp [add_at]
  cell := fun p q hp hq => by
    have := h.cell (l + p) q (by omega) hq
    have e : o + l * s.ks.length + (p * s.ks.length + q) = o + ((l + p) * s.ks.length + q) := by rw [Nat.add_mul]; omega
    rw [e]
    exact this
  rl := fun p q k hp hq => by
    have := h.rl (l + p) q k (by omega) hq
    have e : (D.sl ((d.toL.take i).drop l)).toL.getD p (.int 0) = d.toL.getD (l + p) (.int 0) := by
      show ((d.toL.take i).drop l).getD p (.int 0) = _
      simp only [List.getD_eq_getElem?_getD, List.getElem?_drop]
      rw [List.getElem?_take_of_lt (by omega)]
    rw [e]
    exact this
theorem op_slice {t : TypeId} {x : Operand} {lo hi mx : Option Operand} (ho : o.op = .slice t x lo hi mx) (hcore : core P fc o st = some (b, out)) (hb : b = true) (hr : Rel P X w0 g0 g st a w)
    (harr : ∀ m, ∀ d e, st.ev x ≠ .dt ⟨false, [.sl e]⟩ d [.arr m]) : Does P X w0 g0 o (st.out o.dst out) a w := by
  unfold core at hcore
  rw [ho] at hcore
  simp only at hcore
  have hx := hr.ev x
  split at hcore
  · rename_i d hu he
    rw [he] at hx
    split at hcore
    · rename_i hmx
      have hmx : mx = none := by simpa using hmx
      subst hmx
      split at hcore
      · rename_i k1 l k2 h hl hh
        simp only [Option.some.injEq, Prod.mk.injEq] at hcore
        obtain ⟨hbb, rfl⟩ := hcore
        rw [← hbb] at hb
        simp only [Bool.and_eq_true, decide_eq_true_eq] at hb
        obtain ⟨⟨q1, q2⟩, q3⟩ := hb
        refine does_pure (v := .string (d.toStr.extract l.toInt.toNat h.toInt.toNat)) hr (mk_str (.str _)) ?_
        have hbs : (Instr.sliceBounds false d.toStr.size d.toStr.size (lo.map a.eval) (hi.map a.eval) none).run P w = .ok (l.toInt.toNat, h.toInt.toNat, d.toStr.size) w := by
          have := sliceBounds_run (P := P) (w := w) (isS := false) (len := d.toStr.size) (cap := d.toStr.size) (lo := lo.map a.eval) (hi := hi.map a.eval) (mx := none) (l := l.toInt) (h := h.toInt) (m := d.toStr.size) (k1 := k1) (k2 := k2) (k3 := .i64)
            (by rcases bound_val hr hl with ⟨y, rfl, hy⟩ | ⟨rfl, hy⟩
                · exact .inl (by simp [hy])
                · exact .inr ⟨rfl, hy⟩)
            (by rcases bound_val hr hh with ⟨y, rfl, hy⟩ | ⟨rfl, hy⟩
                · exact .inl (by simp [hy])
                · exact .inr ⟨rfl, hy, rfl⟩) (.inr ⟨rfl, rfl⟩) q1 q2 q3 (Int.le_refl _)
          simpa using this
        simp only [execOp, ho, Instr.sliceAt, Instr.slice, rv_str hx, Sem.run_bind, run_underlying hu, Result.andThen_ok, Option.map_none, Option.isSome_none, Bool.false_eq_true, if_false, hbs, Sem.run_pure]
      · cases hcore
    · cases hcore
  · rename_i e e' d ap hu he
    rw [he] at hx
    split at hcore
    · rename_i hee
      simp only [Bool.and_eq_true, decide_eq_true_eq] at hee
      obtain ⟨rfl, hsi⟩ := hee
      obtain ⟨s, hs⟩ := Option.isSome_iff_exists.1 hsi
      have hsh := (shp_sh hs).1
      split at hcore
      · rename_i k1 l k2 h hl hh
        have hexec : ∀ {v : Value}, (Instr.slice t (a.eval x) (lo.map a.eval) (hi.map a.eval) (mx.map a.eval)).run P w = .ok v w → (execOp a.eval o).run P w = .ok (.value v) w := fun h => by
          simp only [execOp, ho, Instr.sliceAt, Sem.run_bind, run_underlying hu, Result.andThen_ok, h, Sem.run_pure]
        split at hcore
        · split at hcore
          · rename_i m
            exact absurd he (harr m d e)
          · split at hcore
            · rename_i hap
              simp only [Option.some.injEq, Prod.mk.injEq] at hcore
              obtain ⟨hbb, rfl⟩ := hcore
              rw [← hbb] at hb
              simp only [Bool.and_eq_true, decide_eq_true_eq] at hb
              obtain ⟨⟨q1, q2⟩, q3⟩ := hb
              obtain ⟨a', n, c, b', o', u, hd⟩ := rl_sl hs (data_rl hap (one_cell hx))
              have hn := hd.hn
              have hc := hd.hc
              have hcut := hd.cut l.toInt.toNat h.toInt.toNat c (by omega) (by omega) (by omega) (Nat.le_refl _)
              refine does_pure hr (mk_cell ⟨rfl, hcut.mk_rl hs⟩) (hexec ?_)
              have hbs : (Instr.sliceBounds true n c (lo.map a.eval) (hi.map a.eval) none).run P w = .ok (l.toInt.toNat, h.toInt.toNat, c) w := by
                have := sliceBounds_run (P := P) (w := w) (isS := true) (len := n) (cap := c) (lo := lo.map a.eval) (hi := hi.map a.eval) (mx := none) (l := l.toInt) (h := h.toInt) (m := c) (k1 := k1) (k2 := k2) (k3 := .i64)
                  (by rcases bound_val hr hl with ⟨y, rfl, hy⟩ | ⟨rfl, hy⟩
                      · exact .inl (by simp [hy])
                      · exact .inr ⟨rfl, hy⟩)
                  (by rcases bound_val hr hh with ⟨y, rfl, hy⟩ | ⟨rfl, hy⟩
                      · exact .inl (by simp [hy])
                      · exact .inr ⟨rfl, by rw [hy, hn], rfl⟩) (.inr ⟨rfl, rfl⟩) q1 q2 (by omega) (by omega)
                simpa using this
              simp only [Instr.slice, hd.hv, Sem.run_bind, run_underlying hu, Result.andThen_ok, Option.map_none, hbs, run_sizeOf' hsh, Sem.run_pure]
            · cases hcore
        · rename_i y
          split at hcore
          · rename_i k3 q hy
            split at hcore
            · rename_i hap
              simp only [Bool.and_eq_true] at hap
              obtain ⟨hap, hsome⟩ := hap
              simp only [Option.some.injEq, Prod.mk.injEq] at hcore
              obtain ⟨hbb, rfl⟩ := hcore
              rw [← hbb] at hb
              simp only [Bool.and_eq_true, decide_eq_true_eq] at hb
              obtain ⟨⟨⟨q1, q2⟩, q3⟩, q4⟩ := hb
              obtain ⟨a', n, c, b', o', u, hd⟩ := rl_sl hs (data_rl hap (one_cell hx))
              have hn := hd.hn
              have hc := hd.hc
              have hcut := hd.cut l.toInt.toNat h.toInt.toNat h.toInt.toNat (by omega) (by omega) (by omega) (by omega)
              have hyv : a.eval y = .int k3 q.toInt := by
                have := hr.ev y
                rw [hy] at this
                exact rv_int this
              rw [q4] at hyv
              refine does_pure hr (mk_cell ⟨rfl, hcut.mk_rl hs, _, _, rfl⟩) (hexec ?_)
              have hbs : (Instr.sliceBounds true n c (lo.map a.eval) (hi.map a.eval) (some (.int k3 h.toInt))).run P w = .ok (l.toInt.toNat, h.toInt.toNat, h.toInt.toNat) w := by
                rcases bound_val hr hh with ⟨z, rfl, hz⟩ | ⟨rfl, hz⟩
                · exact sliceBounds_run (P := P) (w := w) (isS := true) (len := n) (cap := c) (lo := lo.map a.eval) (hi := (some z).map a.eval) (mx := some (.int k3 h.toInt)) (l := l.toInt) (h := h.toInt) (m := h.toInt) (k1 := k1) (k2 := k2) (k3 := k3)
                    (by rcases bound_val hr hl with ⟨y, rfl, hy⟩ | ⟨rfl, hy⟩
                        · exact .inl (by simp [hy])
                        · exact .inr ⟨rfl, hy⟩)
                    (.inl (by simp [hz])) (.inl rfl) q1 q2 (Int.le_refl _) (by omega)
                · cases hsome
              simp only [Instr.slice, hd.hv, Sem.run_bind, run_underlying hu, Result.andThen_ok, Option.map_some, hyv, hbs, run_sizeOf' hsh, Sem.run_pure]
            · cases hcore
          · cases hcore
      · cases hcore
    · cases hcore
  · cases hcore
end
end Go.Proofs.Ytkimdfpmblhapaa.Va

/- The single operations, one by one: what is built, made and stored. -/
set_option linter.unusedVariables false
set_option linter.unusedSimpArgs false
namespace Go.Proofs.Ytkimdfpmblhapaa.Va
open Go.RowKit

section
variable {P : Program} {X : Nat → Nat → Prop} {w0 : World} {g0 g g' : Gho} {st st' : St} {a : Act} {w w' : World} {fc : FCfg} {o : Oper} {b : Bool} {out : Out}

theorem setR_length {α : Type} : ∀ (vs l : List α) (off : Nat), (setR l off vs).length = l.length
  | [], _, _ => rfl
  | v :: r, l, off => by simp [setR, setR_length r]
theorem setR_getD {α : Type} (z : α) : ∀ (vs l : List α) (off j : Nat), (setR l off vs).getD j z = if off ≤ j ∧ j < off + vs.length ∧ j < l.length then vs.getD (j - off) z else l.getD j z
  | [], l, off, j => by
    rw [if_neg (by simp; omega)]
    rfl
  | v :: r, l, off, j => by
    simp only [setR, setR_getD z r, List.length_set, List.length_cons, getD_set]
    by_cases h1 : off = j
    · subst h1
      by_cases h2 : off < l.length
      · rw [if_neg (by omega), if_pos ⟨rfl, h2⟩, if_pos (by omega)]
        simp
      · rw [if_neg (by omega), if_neg (by omega), if_neg (by omega)]
    · by_cases h3 : off + 1 ≤ j ∧ j < off + 1 + r.length ∧ j < l.length
      · rw [if_pos h3, if_pos (by omega)]
        obtain ⟨k, rfl⟩ : ∃ k, j = off + 1 + k := ⟨j - (off + 1), by omega⟩
        rw [show off + 1 + k - (off + 1) = k from by omega, show off + 1 + k - off = k + 1 from by omega]
        simp
      · rw [if_neg h3, if_neg (fun h => h1 h.1), if_neg (by omega)]
/-- Cells, list by list. -/
structure RCl (P : Program) (X : Nat → Nat → Prop) (g : Gho) (st : St) (w : World) (ks : List LK) (ds : List D) (aps : List Ap) (cs : List Value) : Prop where
  len : cs.length = ks.length
  lap : aps.length = ks.length
  lds : ds.length = ks.length
  at_ : ∀ j k, ks[j]? = some k → RA P X g st w k (ds.getD j (.int 0)) (aps.getD j .dead) (cs.getD j undef)
theorem leavesOf_length (s : Sh) (d : D) (h : s.agg = false → s.ks.length = 1) : (leavesOf s d).length = s.ks.length := by
  unfold leavesOf
  split
  · exact subL_length d _ _
  · rename_i hs; rw [h (by simpa using hs)]; rfl
theorem leavesOf_getD (s : Sh) (d : D) (h : s.agg = false → s.ks.length = 1) {j : Nat} (hj : j < s.ks.length) : (leavesOf s d).getD j (.int 0) = s.at d j := by
  unfold leavesOf Sh.at
  split
  · rw [subL_getD, if_pos hj, Nat.zero_add]
  · rename_i hs
    have := h (by simpa using hs)
    obtain rfl : j = 0 := by omega
    rfl
theorem RC.rcl {s : Sh} {d : D} {aps : List Ap} {cs : List Value} (h1 : s.agg = false → s.ks.length = 1) (h : RC P X g st w s d aps cs) : RCl P X g st w s.ks (leavesOf s d) aps cs :=
  ⟨h.len, h.lap, leavesOf_length s d h1, fun j k hj => by
    have hjl : j < s.ks.length := (List.getElem?_eq_some_iff.1 hj).1
    rw [leavesOf_getD s d h1 hjl]
    exact h.at_ j k hj⟩
theorem at_mkD (s : Sh) (ds : List D) (h : s.agg = false → s.ks.length = 1) {j : Nat} (hj : j < s.ks.length) : s.at (mkD s.agg ds) j = ds.getD j (.int 0) := by
  unfold Sh.at mkD
  split
  · rfl
  · rename_i hs
    have := h (by simpa using hs)
    obtain rfl : j = 0 := by omega
    rfl
theorem RCl.rc {s : Sh} {ds : List D} {aps : List Ap} {cs : List Value} (h1 : s.agg = false → s.ks.length = 1) (h : RCl P X g st w s.ks ds aps cs) : RC P X g st w s (mkD s.agg ds) aps cs :=
  ⟨h.len, h.lap, fun j k hj => by
    have hjl : j < s.ks.length := (List.getElem?_eq_some_iff.1 hj).1
    rw [at_mkD s ds h1 hjl]
    exact h.at_ j k hj⟩
theorem RCl.set {ks : List LK} {ds : List D} {aps : List Ap} {cs : List Value} {off : Nat} {s : Sh} {ds' : List D} {aps' : List Ap} {cs' : List Value} (h : RCl P X g st w ks ds aps cs) (h' : RCl P X g st w s.ks ds' aps' cs') (hf : fits ks off s = true) :
    RCl P X g st w ks (setR ds off ds') (setR aps off aps') (setR cs off cs') := by
  obtain ⟨f1, f2, f3⟩ := fits_spec hf
  refine ⟨by rw [setR_length, h.len], by rw [setR_length, h.lap], by rw [setR_length, h.lds], fun j k hj => ?_⟩
  have hjl : j < ks.length := (List.getElem?_eq_some_iff.1 hj).1
  simp only [setR_getD, h.len, h.lap, h.lds, h'.len, h'.lap, h'.lds]
  by_cases hc : off ≤ j ∧ j < off + s.ks.length ∧ j < ks.length
  · simp only [if_pos hc]
    have : ∃ k', s.ks[j - off]? = some k' := ⟨s.ks[j - off]'(by omega), List.getElem?_eq_getElem (by omega)⟩
    obtain ⟨k', hk'⟩ := this
    have := f1 _ _ hk'
    rw [show off + (j - off) = j from by omega, hj] at this
    cases this
    exact h'.at_ _ _ hk'
  · simp only [if_neg hc]
    exact h.at_ j k hj
theorem setR_splice {α : Type} (l vs : List α) (off : Nat) (h : off + vs.length ≤ l.length) : setR l off vs = l.take off ++ vs ++ l.drop (off + vs.length) := by
  apply List.ext_getElem?
  intro j
  by_cases hj : j < l.length
  · have e1 : (setR l off vs)[j]? = some ((setR l off vs).getD j l[j]) := by
      rw [List.getD_eq_getElem?_getD, List.getElem?_eq_getElem (by rw [setR_length]; exact hj)]
      simp
    rw [e1, setR_getD]
    by_cases hc : off ≤ j ∧ j < off + vs.length ∧ j < l.length
    · rw [if_pos hc, List.getElem?_append_left (by simp; omega), List.getElem?_append_right (by simp; omega)]
      simp only [List.length_take]
      rw [show min off l.length = off from by omega, List.getD_eq_getElem?_getD, List.getElem?_eq_getElem (show j - off < vs.length by omega)]
      simp
    · rw [if_neg hc, List.getD_eq_getElem?_getD, List.getElem?_eq_getElem hj]
      by_cases h2 : j < off
      · rw [List.append_assoc, List.getElem?_append_left (by simp; omega), List.getElem?_take_of_lt h2, List.getElem?_eq_getElem hj]
        simp
      · rw [List.getElem?_append_right (by simp; omega)]
        simp only [List.length_append, List.length_take, List.getElem?_drop]
        rw [show off + vs.length + (j - (min off l.length + vs.length)) = j from by omega, List.getElem?_eq_getElem hj]
        simp
  · rw [List.getElem?_eq_none (by rw [setR_length]; omega), List.getElem?_eq_none (by simp; omega)]

/-! Zero values. -/
theorem ofCell_ra {k : LK} {v : Value} {d : D} {ap : Ap} (h : ofCell k v = some (d, ap)) : RA P X g st w k d ap v := by
  unfold ofCell at h
  split at h
  · split at h
    · rename_i hk
      subst hk
      simp only [Option.some.injEq, Prod.mk.injEq] at h
      obtain ⟨rfl, rfl⟩ := h
      exact ⟨rfl, .int _ (.int _)⟩
    · cases h
  · simp only [Option.some.injEq, Prod.mk.injEq] at h
    obtain ⟨rfl, rfl⟩ := h
    exact ⟨rfl, .bool (.bool _)⟩
  · simp only [Option.some.injEq, Prod.mk.injEq] at h
    obtain ⟨rfl, rfl⟩ := h
    exact ⟨rfl, .str (.str _)⟩
  · simp only [Option.some.injEq, Prod.mk.injEq] at h
    obtain ⟨rfl, rfl⟩ := h
    exact ⟨rfl, .nil _ _ rfl, rfl⟩
  · simp only [Option.some.injEq, Prod.mk.injEq] at h
    obtain ⟨rfl, rfl⟩ := h
    exact ⟨rfl, RX.nilp⟩
  · simp only [Option.some.injEq, Prod.mk.injEq] at h
    obtain ⟨rfl, rfl⟩ := h
    exact ⟨rfl, RX.nilm⟩
  · simp only [Option.some.injEq, Prod.mk.injEq] at h
    obtain ⟨rfl, rfl⟩ := h
    exact ⟨rfl, RX.nilf⟩
  · cases h
theorem ofCells_rcl : ∀ {ks : List LK} {vs : List Value} {l : List D × List Ap}, ofCells ks vs = some l → RCl P X g st w ks l.1 l.2 vs
  | [], [], l, h => by
    simp only [ofCells, Option.some.injEq] at h
    subst h
    exact ⟨rfl, rfl, rfl, fun j k hj => by simp at hj⟩
  | k :: ks, v :: vs, l, h => by
    simp only [ofCells] at h
    split at h
    · rename_i d r h1 h2
      simp only [Option.some.injEq] at h
      subst h
      have ih := ofCells_rcl h2
      refine ⟨by simp [ih.len], by simp [ih.lap], by simp [ih.lds], fun j k' hj => ?_⟩
      cases j with
      | zero => simp at hj; subst hj; exact ofCell_ra h1
      | succ j => simpa using ih.at_ j k' (by simpa using hj)
    · cases h
  | [], _ :: _, _, h => by simp [ofCells] at h
  | _ :: _, [], _, h => by simp [ofCells] at h
theorem zeroD_spec {t : TypeId} {s : Sh} {z : D × List Ap} (hs : sh P t = some s) (h : zeroD P t s = some z) :
    ∃ v, (∀ w : World, (zeroValue t).run P w = .ok v w) ∧ isAggV v = s.agg ∧ (∃ i, P.info? t = some i ∧ i.zero = some v) ∧ RC P X g st w s z.1 z.2 v.cells.toList ∧ RCl P X g st w s.ks (leavesOf s z.1) z.2 v.cells.toList := by
  unfold zeroD at h
  split at h
  · rename_i i hi
    split at h
    · rename_i v hv
      split at h
      · rename_i hag
        split at h
        · rename_i l hl
          simp only [Option.some.injEq] at h
          subst h
          have hrc := (ofCells_rcl (P := P) (X := X) (g := g) (st := st) (w := w) hl).rc (shOne hs)
          refine ⟨v, fun w => ?_, hag, ⟨i, hi, hv⟩, hrc, hrc.rcl (shOne hs)⟩
          simp [zeroValue, typeInfo, hi, hv, Sem.run_bind]
        · cases h
      · cases h
    · cases h
  · cases h

/-! A new variable. -/
def upd {α : Type} (f : Nat → α) (n : Nat) (x : α) : Nat → α := fun k => if k = n then x else f k
theorem upd_self {α : Type} (f : Nat → α) (n : Nat) (x : α) : upd f n x n = x := if_pos rfl
theorem upd_ne {α : Type} (f : Nat → α) {n k : Nat} (x : α) (h : k ≠ n) : upd f n x k = f k := if_neg h
def Gho.new (g : Gho) (n blk : Nat) : Gho := { g with mu := upd g.mu n blk, own := upd g.own blk (.ob n) }
theorem has_set {n k : Nat} {x : Option Ob} : ({ st with hp := st.hp.set n x } : St).has k = if n = k ∧ k < st.hp.length then x.isSome else st.has k := by
  unfold St.has
  simp only [getD_set]
  split <;> rfl
theorem obj_own {n : Nat} {o : Ob} (h : RO P X g st w n o) : g.own (g.mu n) = .ob n := by
  cases o with
  | cells s d aps => obtain ⟨_, _, _, h, _⟩ := h; exact h
  | map kt vt d => obtain ⟨_, _, _, _, _, h, _⟩ := h; exact h
theorem to_new (hr : Rel P X w0 g0 g st a w) {n : Nat} {x : Ob} {ob : Obj} (hn : st.hp.getD n none = none) : To P X g st w (g.new n w.heap.size) { st with hp := st.hp.set n (some x) } (w.alloc ob) := by
  have hblk : ∀ b, b < w.heap.size → (w.alloc ob).heap[b]? = w.heap[b]? := fun b hb => Below.heap_alloc w ob b hb
  refine ⟨fun b o v hc hw => ?_, fun k hk => ?_, fun k hk => ?_, fun m hm => hm, fun m _ hm => ⟨hm, rfl⟩, fun b m hb _ _ => ?_, fun b m _ _ hb => ?_⟩
  · have hb := World.block_lt_of_cell? w ⟨b, o, none⟩ hc
    refine ⟨(cell_block (hblk b hb)).trans hc, ?_⟩
    unfold Wr at hw ⊢
    simp only [Gho.new]
    rw [upd_ne _ _ (by have : b < w.heap.size := hb; omega)]
    exact hw
  · simp only [Gho.new]
    refine upd_ne _ _ ?_
    rintro rfl
    unfold St.has at hk
    rw [hn] at hk
    cases hk
  · rw [has_set]
    split
    · rfl
    · exact hk
  · have hb2 := hr.fr.lt b (by rw [hb]; simp)
    exact ⟨hblk b hb2, by simp only [Gho.new]; rw [upd_ne _ _ (by omega)]; exact hb⟩
  · simp only [Gho.new] at hb ⊢
    by_cases hbe : b = w.heap.size
    · subst hbe
      rw [upd_self] at hb
      rcases hb with ⟨_, hb⟩ | hb <;> cases hb
    · exact upd_ne _ _ hbe
theorem Rel.newOb (hr : Rel P X w0 g0 g st a w) {n : Nat} {x : Ob} {ob : Obj} (hnb : st.nb ≤ n) (hnp : n ∉ st.protM) (hn : st.hp.getD n none = none) (hl : n < st.hp.length)
    (hx : RO P X (g.new n w.heap.size) { st with hp := st.hp.set n (some x) } (w.alloc ob) n x) : Rel P X w0 g0 (g.new n w.heap.size) { st with hp := st.hp.set n (some x) } a (w.alloc ob) := by
  have ht := to_new (ob := ob) (x := x) hr hn
  have hblk : ∀ b, b < w.heap.size → (w.alloc ob).heap[b]? = w.heap[b]? := fun b hb => Below.heap_alloc w ob b hb
  have hsz : (w.alloc ob).heap.size = w.heap.size + 1 := by simp
  refine ⟨hr.dfr, hr.siz, fun i => (hr.slot i).to ht, fun k o ho => ?_, fun m hm => ?_, ?_, hr.xlt, fun b o hx => by
    have h1 := hr.xlt b o hx
    have h2 := hr.fr.size
    simp only [Gho.new]
    rw [upd_ne _ _ (by omega)]
    exact hr.xown b o hx, fun b m hb => by
    simp only [Gho.new] at hb
    by_cases hbe : b = w.heap.size
    · subst hbe
      rw [upd_self] at hb
      rcases hb with ⟨_, hb⟩ | hb <;> cases hb
    · rw [upd_ne _ _ hbe] at hb
      exact hr.tkl b m hb, hr.ptl⟩
  · simp only [getD_set] at ho
    split at ho
    · rename_i hk
      obtain ⟨rfl, _⟩ := hk
      cases ho
      exact hx
    · have hro := hr.objs k o ho
      have hb : g.mu k < w.heap.size := hr.fr.lt _ (by rw [obj_own hro]; simp)
      refine hro.to ht (by unfold St.has; rw [ho]; rfl) (hblk _ hb) ?_
      simp only [Gho.new]
      exact upd_ne _ _ (by omega)
  · refine RT.to (g := g) (g' := g.new n w.heap.size) (w := w) rfl (fun b hb => ?_) (fun b hb _ => ?_) (hr.toks m hm)
    · simp only [Gho.new] at hb
      by_cases hbe : b = w.heap.size
      · subst hbe
        rw [upd_self] at hb
        cases hb
      · rwa [upd_ne _ _ hbe] at hb
    have hb2 := hr.fr.lt b hb
    exact ⟨hblk b hb2, by simp only [Gho.new]; exact upd_ne _ _ (by omega)⟩
  · have hf := hr.fr
    refine ⟨hf.os, hf.tape, hf.output, by rw [hsz]; have := hf.size; omega, fun b hb h0 => ?_, fun b hb => ?_, fun k hk => ?_, fun b m s hb h0 => ?_, hf.rho, fun b m hm hb => ?_⟩
    · have h1 := hf.old b hb h0
      have h2 := hf.size
      exact ⟨(hblk b (by omega)).trans h1.1, by simp only [Gho.new]; rw [upd_ne _ _ (by omega)]; exact h1.2⟩
    · rw [hsz]
      by_cases hbe : b = w.heap.size
      · omega
      · simp only [Gho.new] at hb
        rw [upd_ne _ _ hbe] at hb
        have := hf.lt b hb
        omega
    · simp only [Gho.new]
      rw [upd_ne _ _ (by
        rcases hk with hk | hk
        · have : k < st.nb := hk
          omega
        · rintro rfl
          exact hnp hk)]
      exact hf.mu k hk
    · have h1 := hf.tl b m s hb h0
      have h2 := hf.size
      refine ⟨fun o v ho hv => (cell_block (hblk b (by omega))).trans (h1.1 o v ho hv), ?_⟩
      simp only [Gho.new]
      rw [upd_ne _ _ (by omega)]
      exact h1.2
    · simp only [Gho.new] at hb ⊢
      by_cases hbe : b = w.heap.size
      · subst hbe
        rw [upd_self] at hb
        rcases hb with ⟨_, hb⟩ | hb <;> cases hb
      · rw [upd_ne _ _ hbe] at hb ⊢
        exact hf.back b m hm hb
/-- A new variable of cells. -/
theorem Rel.newCells (hr : Rel P X w0 g0 g st a w) {n : Nat} {s : Sh} {d : D} {aps : List Ap} {cs : Array Value} {e : TypeId} (hnb : st.nb ≤ n) (hnp : n ∉ st.protM) (hn : st.hp.getD n none = none) (hl : n < st.hp.length)
    (h10 : s.agg = false → s.ks.length = 1) (hx : RC P X g st w s d aps cs.toList) : Rel P X w0 g0 (g.new n w.heap.size) { st with hp := st.hp.set n (some (.cells s d aps)) } a (w.alloc (.cells cs e)) := by
  refine hr.newOb hnb hnp hn hl ⟨cs, e, ?_, ?_, h10, hx.to (to_new hr hn)⟩
  · simp only [Gho.new, upd_self]
    exact heap_alloc_new w _
  · simp only [Gho.new, upd_self]
theorem run_newVar {e : TypeId} {v : Value} : (newVar e v).run P w = .ok ⟨w.heap.size, 0, none⟩ (w.alloc (.cells v.cells e)) := by
  unfold newVar newRow newObj
  rw [Sem.run_bind]
  rfl
theorem rx_new {n : Nat} {x : Ob} (hl : n < st.hp.length) : RV P X (g.new n w.heap.size) { st with hp := st.hp.set n (some x) } w' (xv (.ptr n 0)) (.pointer (some ⟨w.heap.size, 0, none⟩)) := by
  have := RX.ptr (g := g.new n w.heap.size) (ok := ({ st with hp := st.hp.set n (some x) } : St).has) n 0 (by rw [has_set, if_pos ⟨rfl, hl⟩]; rfl)
  simp only [Gho.new, upd_self] at this
  exact mk_x this
theorem op_alloc {e : TypeId} (ho : o.op = .alloc e) (hcore : core P fc o st = some (b, out)) (hr : Rel P X w0 g0 g st a w) : Does P X w0 g0 o (st.out o.dst out) a w := by
  unfold core at hcore
  rw [ho] at hcore
  simp only at hcore
  split at hcore
  · rename_i n s hd hs
    split at hcore
    · rename_i z hz
      split at hcore
      · rename_i hc
        simp only [Bool.and_eq_true, decide_eq_true_eq, Option.isNone_iff_eq_none] at hc
        simp only [Option.some.injEq, Prod.mk.injEq] at hcore
        obtain ⟨_, rfl⟩ := hcore
        obtain ⟨v, hrun, hag, _, hrc, _⟩ := zeroD_spec (X := X) (g := g) (st := st) (w := w) hs hz
        refine does_value (hr.newCells (e := e) (Nat.le_add_right _ _) (by simpa using hc.2) hc.1.1 hc.1.2 (shOne hs) hrc) (rx_new hc.1.2) ?_
        simp only [execOp, ho, Instr.alloc, Sem.run_bind, hrun, Result.andThen_ok, run_newVar, Sem.run_pure]
      · cases hcore
    · cases hcore
  · cases hcore
theorem op_box {e : TypeId} {x : Operand} (ho : o.op = .box e x) (hcore : core P fc o st = some (b, out)) (hr : Rel P X w0 g0 g st a w) : Does P X w0 g0 o (st.out o.dst out) a w := by
  unfold core at hcore
  rw [ho] at hcore
  simp only at hcore
  split at hcore
  · rename_i n s s' d aps hd hs hx
    split at hcore
    · rename_i hc
      simp only [Bool.and_eq_true, decide_eq_true_eq, Option.isNone_iff_eq_none] at hc
      simp only [Option.some.injEq, Prod.mk.injEq] at hcore
      obtain ⟨_, rfl⟩ := hcore
      obtain ⟨⟨⟨⟨rfl, h2⟩, h3⟩, h4⟩, h5⟩ := hc
      have hv := cast_rv (t := e) (hr.ev x)
      rw [hx] at hv
      refine does_value (hr.newCells (e := e) (Nat.le_add_right _ _) (by simpa using h5) h3 h4 (shOne hs) hv.2) (rx_new h4) ?_
      simp only [execOp, ho, Instr.box, Sem.run_bind, Result.andThen_ok, run_newVar, Sem.run_pure]
    · cases hcore
  · cases hcore
end
end Go.Proofs.Ytkimdfpmblhapaa.Va

/- The single operations, one by one: structs, slices, functions that are built; stores. -/
set_option linter.unusedVariables false
set_option linter.unusedSimpArgs false
namespace Go.Proofs.Ytkimdfpmblhapaa.Va
open Go.RowKit

section
variable {P : Program} {X : Nat → Nat → Prop} {w0 : World} {g0 g g' : Gho} {st st' : St} {a : Act} {w w' : World} {fc : FCfg} {o : Oper} {b : Bool} {out : Out}

/-- The cells of a struct, filled one part after the other. -/
theorem foldl_setR (off : Nat) : ∀ (vs : List Value) (k : Nat) (cs : Array Value), (vs.zipIdx k).foldl (fun cs (x : Value × Nat) => cs.setIfInBounds (off + x.2) x.1) cs = (setR cs.toList (off + k) vs).toArray
  | [], k, cs => by simp [setR]
  | v :: r, k, cs => by
    simp only [List.zipIdx_cons, List.foldl_cons, foldl_setR off r, setR, Array.toList_setIfInBounds]
    rfl
theorem fill_step {place : Nat → Option (Nat × Nat)} {i off sz : Nat} {v : Value} {cs : Array Value} {r : List (Nat × Value)} (hp : place i = some (off, sz)) (h1 : v.cells.size = sz) (h2 : off + sz ≤ cs.size) :
    Instr.fill place cs ((i, v) :: r) = Instr.fill place (setR cs.toList off v.cells.toList).toArray r := by
  simp only [Instr.fill, hp]
  have hn : ¬ ((decide (v.cells.size ≠ sz) || decide (off + v.cells.size > cs.size)) = true) := by
    simp only [Bool.or_eq_true, decide_eq_true_eq]
    omega
  have := foldl_setR off v.cells.toList 0 cs
  rw [Nat.add_zero] at this
  have h3 : v.cells.zipIdx.foldl (fun cs (x : Value × Nat) => cs.setIfInBounds (off + x.2) x.1) cs = (setR cs.toList off v.cells.toList).toArray := by
    rw [← this, ← Array.foldl_toList]
    simp
  rw [if_neg hn]
  rw [← h3]
theorem fillD_run {fs : Array Field} {ks : List LK} {place : Nat → Option (Nat × Nat)} (hplace : ∀ (i : Nat) (f : Field) (s : Sh), fs[i]? = some f → sh P f.type = some s → place i = some (f.offset, s.ks.length)) :
    ∀ (ps : List (Nat × AV)) (vs : List (Nat × Value)) (l r : List D × List Ap) (cs : Array Value), RCl P X g st w ks l.1 l.2 cs.toList → fillD P fs ks l ps = some r → ps.length = vs.length →
    (∀ (i : Nat) (p : Nat × AV) (q : Nat × Value), ps[i]? = some p → vs[i]? = some q → p.1 = q.1 ∧ RV P X g st w p.2 q.2) → ∃ cs', Instr.fill place cs vs = some cs' ∧ RCl P X g st w ks r.1 r.2 cs'.toList
  | [], [], l, r, cs, h, hf, _, _ => by
    simp only [fillD, Option.some.injEq] at hf
    subst hf
    exact ⟨cs, rfl, h⟩
  | (i, x) :: ps, (i', v) :: vs, l, r, cs, h, hf, hl, hp => by
    obtain ⟨he, hv⟩ := hp 0 (i, x) (i', v) rfl rfl
    simp only at he hv
    subst he
    simp only [fillD] at hf
    split at hf
    · rename_i f s d aps hfi
      split at hf
      · rename_i hc
        simp only [Bool.and_eq_true, decide_eq_true_eq] at hc
        obtain ⟨⟨hs, hal⟩, hfit⟩ := hc
        have hrc := hv.2
        have h1 := shOne hs
        obtain ⟨f1, f2, f3⟩ := fits_spec hfit
        have hlen := h.len
        have hlc := hrc.len
        simp only [Array.length_toList] at hlen hlc
        obtain ⟨cs', h5, h6⟩ := fillD_run hplace ps vs _ r (setR cs.toList f.offset v.cells.toList).toArray (by simpa using h.set (hrc.rcl h1) hfit) hf (by simpa using hl)
          (fun j p q hj hq => hp (j + 1) p q (by simpa using hj) (by simpa using hq))
        refine ⟨cs', ?_, h6⟩
        rw [fill_step (hplace i f s hfi hs) hlc (by omega)]
        exact h5
      · cases hf
    · cases hf
  | [], _ :: _, _, _, _, _, _, h, _ => by simp at h
  | _ :: _, [], _, _, _, _, _, h, _ => by simp at h
theorem mapM_run {α β : Type} (f : α → Sem β) (k : α → β) (hk : ∀ x, ∃ y, k x = y) : ∀ (l : List α), (∀ x ∈ l, ∀ w, (f x).run P w = .ok (k x) w) → ∀ w, (l.mapM f).run P w = .ok (l.map k) w
  | [], _, w => rfl
  | x :: r, h, w => by
    simp only [List.mapM_cons, Sem.run_bind, h x (List.mem_cons_self), Result.andThen_ok, mapM_run f k hk r (fun y hy => h y (List.mem_cons_of_mem _ hy)), List.map_cons]
    rfl
theorem amapM_run {α β : Type} (f : α → Sem β) (k : α → β) (l : Array α) (h : ∀ x ∈ l.toList, ∀ w, (f x).run P w = .ok (k x) w) (w : World) : (l.mapM f).run P w = .ok (l.map k) w := by
  have h1 := mapM_run (P := P) f k (fun x => ⟨_, rfl⟩) l.toList h w
  rw [Array.mapM_eq_mapM_toList, Sem.run_map, h1, Result.andThen_ok]
  congr 1
  apply Array.ext'
  simp
theorem kindsF_info {f : TypeId → Option (List LK)} : ∀ {l : List Field} {ks : List LK}, kindsF f l = some ks → ∀ x ∈ l, ∃ q, f x.type = some q
  | [], _, _, x, hx => by cases hx
  | y :: r, ks, h, x, hx => by
    simp only [kindsF] at h
    split at h
    · rename_i p q h1 h2
      rcases List.mem_cons.1 hx with rfl | hx
      · exact ⟨p, h1⟩
      · exact kindsF_info h2 x hx
    · cases h
theorem kinds_info {n : Nat} {t : TypeId} {ks : List LK} (h : kinds P n t = some ks) : ∃ i, P.info? t = some i := by
  cases n with
  | zero => cases h
  | succ n =>
    have hu : ∃ u, P.underlying t = some u := by
      unfold kinds at h
      split at h <;> first | exact ⟨_, by assumption⟩ | cases h
    obtain ⟨u, hu⟩ := hu
    unfold Program.underlying at hu
    split at hu
    · exact ⟨_, by assumption⟩
    · exact ⟨_, by assumption⟩
    · cases hu
theorem fields_info {t : TypeId} {fs : Array Field} {s : Sh} (hu : P.underlying t = some (.struct fs)) (hs : sh P t = some s) : ∀ f ∈ fs.toList, ∃ i, P.info? f.type = some i := by
  intro f hf
  unfold sh at hs
  split at hs
  · rename_i ks hk
    unfold kinds at hk
    rw [hu] at hk
    simp only at hk
    obtain ⟨q, hq⟩ := kindsF_info hk f hf
    exact kinds_info hq
  · cases hs
theorem op_build {t : TypeId} {ps : Array (Nat × Operand)} (ho : o.op = .build t ps) (hcore : core P fc o st = some (b, out)) (hr : Rel P X w0 g0 g st a w) : Does P X w0 g0 o (st.out o.dst out) a w := by
  unfold core at hcore
  rw [ho] at hcore
  simp only at hcore
  split at hcore
  · rename_i fs s hu hs
    split at hcore
    · rename_i z hz
      split at hcore
      · rename_i l hl
        obtain ⟨_, rfl⟩ := out_val hcore
        obtain ⟨v, hrun, hag, _, hrc, hrcl⟩ := zeroD_spec (X := X) (g := g) (st := st) (w := w) hs hz
        have hsa : s.agg = true := by
          obtain ⟨_, u, _, _, h3, h4, _⟩ := sh_spec hs
          rw [hu] at h3
          cases h3
          unfold aggT at h4
          rw [hu] at h4
          exact h4.symm
        have hz0 : leavesOf s z.1 = z.1.subL 0 s.ks.length := by unfold leavesOf; rw [if_pos hsa]
        rw [hz0] at hrcl
        have hpl : ∀ (w : World), (fs.mapM fun f => do pure (f.offset, ← sizeOf f.type) : Sem (Array (Nat × Nat))).run P w = .ok (fs.map fun f => (f.offset, P.cellsOf f.type)) w := fun w => by
          refine amapM_run _ (fun f => (f.offset, P.cellsOf f.type)) fs (fun f hf w => ?_) w
          obtain ⟨i, hi⟩ := fields_info hu hs f hf
          simp only [Sem.run_bind, run_sizeOf_info hi, Result.andThen_ok, Sem.run_pure, Program.cellsOf, hi, Option.map_some, Option.getD_some]
        have hlen : (ps.toList.map fun p => (p.1, match fs[p.1]? with | some f => cast P f.type (st.ev p.2) | none => AV.undef)).length = (ps.toList.map fun p => (p.1, a.eval p.2)).length := by simp
        obtain ⟨cs', h5, h6⟩ := fillD_run (place := fun i => (fs.map fun f => (f.offset, P.cellsOf f.type))[i]?) (fun i f s hf hsf => by
            obtain ⟨i', u, h1, h2, _⟩ := sh_spec hsf
            simp [hf, Program.cellsOf, h1, h2]) _ (ps.toList.map fun p => (p.1, a.eval p.2)) (z.1.subL 0 s.ks.length, z.2) l v.cells hrcl hl hlen (fun i p q hp hq => by
            simp only [List.getElem?_map, Option.map_eq_some_iff] at hp hq
            obtain ⟨y, hy, rfl⟩ := hp
            obtain ⟨y', hy', rfl⟩ := hq
            rw [hy] at hy'
            cases hy'
            refine ⟨rfl, ?_⟩
            simp only
            split
            · exact cast_rv (hr.ev y.2)
            · trivial)
        refine does_pure (v := .agg cs') hr ?_ ?_
        · refine ⟨by rw [hsa]; rfl, ?_⟩
          have := h6.rc (shOne hs)
          unfold mkD at this
          rw [if_pos hsa] at this
          exact this
        · simp only [execOp, ho, Instr.build, Sem.run_bind, hrun, Result.andThen_ok, run_underlying hu, hpl]
          have : (ps.map fun x => (x.1, a.eval x.2)).toList = ps.toList.map fun p => (p.1, a.eval p.2) := by simp
          rw [this, h5]
          simp only [Sem.run_pure, Result.andThen_ok]
      · cases hcore
    · cases hcore
  · cases hcore

/-! Slices that are built. -/
/-- Rows of elements. -/
structure RRs (P : Program) (W : Nat → Nat → Prop) (w : World) (s : Sh) (n : Nat) (ds : List D) (cs : List Value) : Prop where
  len : cs.length = n * s.ks.length
  lds : ds.length = n
  one : ∀ v ∈ cs, v.oneCell' = true
  rl : ∀ i j k, i < n → s.ks[j]? = some k → RL P w W k (s.at (ds.getD i (.int 0)) j) (cs.getD (i * s.ks.length + j) undef)
theorem mem_setR {α : Type} {x : α} : ∀ {vs l : List α} {off : Nat}, x ∈ setR l off vs → x ∈ l ∨ x ∈ vs
  | [], l, off, h => .inl h
  | v :: r, l, off, h => by
    rcases mem_setR (vs := r) h with h | h
    · rcases List.mem_or_eq_of_mem_set h with h | h
      · exact .inl h
      · exact .inr (by rw [h]; exact List.mem_cons_self)
    · exact .inr (List.mem_cons_of_mem _ h)
theorem rc_one {s : Sh} {d : D} {aps : List Ap} {cs : List Value} (h : RC P X g st w s d aps cs) : ∀ v ∈ cs, v.oneCell' = true := by
  intro v hv
  obtain ⟨j, hj, rfl⟩ := List.getElem_of_mem hv
  obtain ⟨k, hk, h2⟩ := h.get (j := j) (by rw [← h.len]; exact hj)
  have := h2.1
  rw [List.getD_eq_getElem?_getD, List.getElem?_eq_getElem hj] at this
  exact this
theorem data_at {aps : List Ap} (h : aps.all dataAp = true) {j : Nat} (hj : j < aps.length) : dataAp (aps.getD j .dead) = true := by
  rw [List.getD_eq_getElem?_getD, List.getElem?_eq_getElem hj]
  exact List.all_eq_true.1 h _ (List.getElem_mem hj)
theorem idx_lt {i n j z : Nat} (hi : i < n) (hj : j < z) : i * z + j < n * z := by
  have : (i + 1) * z ≤ n * z := Nat.mul_le_mul_right z hi
  rw [Nat.add_mul] at this
  omega
theorem idx_ne {i i' j j' z : Nat} (hj : j < z) (hj' : j' < z) (h : i * z + j = i' * z + j') : i = i' := by
  rcases Nat.lt_trichotomy i i' with h1 | h1 | h1
  · have : (i + 1) * z ≤ i' * z := Nat.mul_le_mul_right z h1
    rw [Nat.add_mul] at this
    omega
  · exact h1
  · have : (i' + 1) * z ≤ i * z := Nat.mul_le_mul_right z h1
    rw [Nat.add_mul] at this
    omega
theorem RRs.set {s : Sh} {n : Nat} {ds : List D} {cs : List Value} {i : Nat} {d : D} {aps : List Ap} {vs : List Value} (h : RRs P (Wr X g) w s n ds cs) (hi : i < n) (hd : aps.all dataAp = true) (hv : RC P X g st w s d aps vs) :
    RRs P (Wr X g) w s n (ds.set i d) (setR cs (i * s.ks.length) vs) := by
  have hl := hv.len
  have hla := hv.lap
  have hlen := h.len
  refine ⟨by rw [setR_length, h.len], by simp [h.lds], fun v hm => ?_, fun i' j k hi' hj => ?_⟩
  · rcases mem_setR hm with hm | hm
    · exact h.one v hm
    · exact rc_one hv v hm
  · have hjl : j < s.ks.length := (List.getElem?_eq_some_iff.1 hj).1
    rw [setR_getD, getD_set, h.lds]
    by_cases hii : i = i'
    · subst hii
      have hb := idx_lt hi hjl
      rw [if_pos ⟨rfl, hi⟩, if_pos (by omega), Nat.add_sub_cancel_left]
      exact data_rl (data_at hd (by omega)) (hv.at_ j k hj)
    · rw [if_neg (fun hh => hii hh.1), if_neg ?_]
      · exact h.rl i' j k hi' hj
      · rintro ⟨h1, h2, _⟩
        have := idx_ne (i := i) (i' := i') (j := i' * s.ks.length + j - i * s.ks.length) (j' := j) (z := s.ks.length) (by omega) hjl (by omega)
        exact hii this
theorem fillS_run {s : Sh} {n : Nat} (h1 : s.agg = false → s.ks.length = 1) : ∀ (ps : List (Nat × AV)) (vs : List (Nat × Value)) (l r : List D) (cs : Array Value), RRs P (Wr X g) w s n l cs.toList → fillS s l ps = some r → ps.length = vs.length →
    (∀ (i : Nat) (p : Nat × AV) (q : Nat × Value), ps[i]? = some p → vs[i]? = some q → p.1 = q.1 ∧ RV P X g st w p.2 q.2) → ∃ cs', Instr.fill (fun i => some (i * s.ks.length, s.ks.length)) cs vs = some cs' ∧ RRs P (Wr X g) w s n r cs'.toList
  | [], [], l, r, cs, h, hf, _, _ => by
    simp only [fillS, Option.some.injEq] at hf
    subst hf
    exact ⟨cs, rfl, h⟩
  | (i, x) :: ps, (i', v) :: vs, l, r, cs, h, hf, hl, hp => by
    obtain ⟨he, hv⟩ := hp 0 (i, x) (i', v) rfl rfl
    simp only at he hv
    subst he
    simp only [fillS] at hf
    split at hf
    · rename_i s' d aps
      split at hf
      · rename_i hc
        simp only [Bool.and_eq_true, decide_eq_true_eq] at hc
        obtain ⟨⟨rfl, hda⟩, hil⟩ := hc
        rw [h.lds] at hil
        have hrc := hv.2
        have hlen := h.len
        have hlc := hrc.len
        simp only [Array.length_toList] at hlen hlc
        have hb : i * s'.ks.length + s'.ks.length ≤ n * s'.ks.length := by
          have : (i + 1) * s'.ks.length ≤ n * s'.ks.length := Nat.mul_le_mul_right _ hil
          rw [Nat.add_mul] at this
          omega
        obtain ⟨cs', h5, h6⟩ := fillS_run h1 ps vs _ r (setR cs.toList (i * s'.ks.length) v.cells.toList).toArray (by simpa using h.set hil hda hrc) hf (by simpa using hl)
          (fun j p q hj hq => hp (j + 1) p q (by simpa using hj) (by simpa using hq))
        refine ⟨cs', ?_, h6⟩
        rw [fill_step (place := fun i => some (i * s'.ks.length, s'.ks.length)) rfl hlc (by omega)]
        exact h5
      · cases hf
    · cases hf
  | [], _ :: _, _, _, _, _, _, h, _ => by simp at h
  | _ :: _, [], _, _, _, _, _, h, _ => by simp at h
theorem repD_length (d : D) : ∀ n, (repD d n).length = n
  | 0 => rfl
  | n + 1 => by simp [repD, repD_length d n]
theorem repD_getD (d z : D) : ∀ n i, i < n → (repD d n).getD i z = d
  | 0, i, h => by omega
  | n + 1, 0, _ => rfl
  | n + 1, i + 1, h => by
    simp only [repD, List.getD_cons_succ]
    exact repD_getD d z n i (by omega)
theorem own_new (hr : Rel P X w0 g0 g st a w) (o' : Nat) : ¬ Wr X g w.heap.size o' := by
  rintro (h | h)
  · have h1 := hr.xlt _ _ h
    have h2 := hr.fr.size
    omega
  · have : g.own w.heap.size = .dat := Classical.byContradiction fun hn => by
      have := hr.fr.lt _ hn
      omega
    rw [this] at h
    exact h
/-- A new row of plain data. -/
theorem rl_row {e : TypeId} {s : Sh} {n : Nat} {l : List D} {cs : Array Value} (hr : Rel P X w0 g0 g st a w) (hs : shp P e = some s) (h : RRs P (Wr X g) w s n l cs.toList) {w' : World} (hb : Below w.heap.size w w') {c : Nat} (hc : n ≤ c) (hm : n ≤ 140737488355328) {cs' : Array Value} {f : Nat × Nat}
    (hcs : w'.heap[w.heap.size]? = some (.cells cs' e f)) (hpre : ∀ i, i < n * s.ks.length → cs'[i]? = cs[i]?) : RL P w' (Wr X g) (.sl e) (.sl l) (.slice (some ⟨w.heap.size, 0, none⟩) n c) := by
  have hlen := h.len
  simp only [Array.length_toList] at hlen
  refine .sl e s (.sl l) _ n c w.heap.size 0 (fun i j => cs.toList.getD (i * s.ks.length + j) undef) hs h.lds hc hm (fun _ => rfl) (fun i j hi hj => ⟨?_, own_new hr _⟩) (fun i j k hi hj => (h.rl i j k hi hj).mono (stay_below hb))
  have hlt := idx_lt hi hj
  rw [cell_at hcs, Nat.zero_add, hpre _ hlt, List.getD_eq_getElem?_getD, Array.getElem?_toList]
  rw [Array.getElem?_eq_getElem (by omega)]
  rfl
theorem zero_rows {s : Sh} {z : D × List Ap} {v : Value} (hpl : s.plain = true) (hrc : RC P X g st w s z.1 z.2 v.cells.toList) (hda : ∀ j, j < s.ks.length → dataAp (z.2.getD j .dead) = true) (n : Nat) :
    RRs P (Wr X g) w s n (repD z.1 n) ((Array.range (n * s.ks.length)).map (fun i => v.cells[i % v.cells.size]!)).toList := by
  have hl := hrc.len
  simp only [Array.length_toList] at hl
  refine ⟨by simp, repD_length _ _, fun u hu => ?_, fun i j k hi hj => ?_⟩
  · simp only [Array.toList_map, Array.toList_range, List.mem_map, List.mem_range] at hu
    obtain ⟨i, hi, rfl⟩ := hu
    have hpos : 0 < v.cells.size := by
      rcases Nat.eq_zero_or_pos v.cells.size with h0 | h0
      · rw [← hl, h0] at hi; simp at hi
      · exact h0
    have hm : i % v.cells.size < v.cells.size := Nat.mod_lt _ hpos
    rw [getElem!_pos v.cells _ hm]
    exact rc_one hrc _ (by simp)
  · have hjl : j < s.ks.length := (List.getElem?_eq_some_iff.1 hj).1
    have hlt := idx_lt hi hjl
    rw [repD_getD _ _ _ _ hi]
    have hg : ((Array.range (n * s.ks.length)).map (fun i => v.cells[i % v.cells.size]!)).toList.getD (i * s.ks.length + j) undef = v.cells.toList.getD j undef := by
      simp only [List.getD_eq_getElem?_getD, Array.getElem?_toList, Array.getElem?_map, Array.getElem?_range, if_pos hlt, Option.map_some, Option.getD_some]
      rw [hl, Nat.add_comm, Nat.add_mul_mod_self_right, Nat.mod_eq_of_lt hjl, getElem!_pos v.cells j (by omega)]
      simp [show j < v.cells.size by omega]
    rw [hg]
    exact data_rl (hda j hjl) (hrc.at_ j k hj)
end
end Go.Proofs.Ytkimdfpmblhapaa.Va

/- The single operations, one by one: slices that are built, functions, stores, appends. -/
set_option linter.unusedVariables false
set_option linter.unusedSimpArgs false
namespace Go.Proofs.Ytkimdfpmblhapaa.Va
open Go.RowKit

section
variable {P : Program} {X : Nat → Nat → Prop} {w0 : World} {g0 g g' : Gho} {st st' : St} {a : Act} {w w' : World} {fc : FCfg} {o : Oper} {b : Bool} {out : Out}

theorem ofCells_data : ∀ {ks : List LK} {vs : List Value} {l : List D × List Ap}, ofCells ks vs = some l → ∀ j k, ks[j]? = some k → k ≠ .x → dataAp (l.2.getD j .dead) = true
  | [], [], l, h, j, k, hj, _ => by simp at hj
  | k :: ks, v :: vs, l, h, j, k', hj, hk => by
    simp only [ofCells] at h
    split at h
    · rename_i d r h1 h2
      simp only [Option.some.injEq] at h
      subst h
      cases j with
      | zero =>
        simp only [List.getElem?_cons_zero, Option.some.injEq] at hj
        subst hj
        simp only [List.getD_cons_zero]
        unfold ofCell at h1
        split at h1
        · split at h1
          · cases h1; rfl
          · cases h1
        all_goals first | (cases h1; rfl) | (exact absurd rfl hk) | cases h1
      | succ j =>
        simp only [List.getD_cons_succ]
        exact ofCells_data h2 j k' (by simpa using hj) hk
    · cases h
  | [], _ :: _, _, h, _, _, _, _ => by simp [ofCells] at h
  | _ :: _, [], _, h, _, _, _, _ => by simp [ofCells] at h
theorem zeroD_data {t : TypeId} {s : Sh} {z : D × List Ap} (hp : s.plain = true) (h : zeroD P t s = some z) : ∀ j, j < s.ks.length → dataAp (z.2.getD j .dead) = true := by
  intro j hj
  unfold zeroD at h
  split at h
  · split at h
    · split at h
      · split at h
        · rename_i l hl
          simp only [Option.some.injEq] at h
          subst h
          exact ofCells_data hl j _ (List.getElem?_eq_getElem hj) (plain_ne hp (List.getElem?_eq_getElem hj))
        · cases h
      · cases h
    · cases h
  · cases h
theorem op_buildSlice {t : TypeId} {n : Nat} {ps : Array (Nat × Operand)} (ho : o.op = .buildSlice t n ps) (hcore : core P fc o st = some (b, out)) (hr : Rel P X w0 g0 g st a w) : Does P X w0 g0 o (st.out o.dst out) a w := by
  unfold core at hcore
  rw [ho] at hcore
  simp only at hcore
  split at hcore
  · rename_i e hu
    split at hcore
    · rename_i s hs
      split at hcore
      · rename_i z hz
        split at hcore
        · rename_i hlim
          simp only [Bool.and_eq_true, decide_eq_true_eq] at hlim
          obtain ⟨hlim1, hlim⟩ := hlim
          split at hcore
          · rename_i l hl
            obtain ⟨_, rfl⟩ := out_val hcore
            obtain ⟨hsh, hpl⟩ := shp_sh hs
            obtain ⟨v, hrun, hag, _, hrc, _⟩ := zeroD_spec (X := X) (g := g) (st := st) (w := w) hsh hz
            have h0 := zero_rows hpl hrc (zeroD_data hpl hz) n
            obtain ⟨cs', h5, h6⟩ := fillS_run (shOne hsh) _ (ps.toList.map fun p => (p.1, a.eval p.2)) _ l _ h0 hl (by simp) (fun i p q hp hq => by
              simp only [List.getElem?_map, Option.map_eq_some_iff] at hp hq
              obtain ⟨y, hy, rfl⟩ := hp
              obtain ⟨y', hy', rfl⟩ := hq
              rw [hy] at hy'
              cases hy'
              exact ⟨rfl, cast_rv (hr.ev y.2)⟩)
            have hb : Below w.heap.size w (w.alloc (.cells cs' e)) := (Below.refl _ _).alloc (Nat.le_refl _) _
            have hlen := h6.len
            have hn47 : n ≤ 140737488355328 := by omega
            refine does_value (hr.below hb) (mk_cell ⟨rfl, rl_row hr hs h6 hb (Nat.le_refl n) hn47 (cs' := cs') (f := (0, 0)) (heap_alloc_new w _) (fun _ _ => rfl), _, _, rfl⟩) ?_
            have hif : ¬ n * s.ks.length > 2 ^ 24 := by simp; omega
            have hparts : (ps.map fun x => (x.1, a.eval x.2)).toList = ps.toList.map fun p => (p.1, a.eval p.2) := by simp
            by_cases hz0 : n * s.ks.length = 0
            · have hmap : ((Array.range (n * s.ks.length)).map fun i => (#[] : Array Value)[i % (#[] : Array Value).size]!) = (Array.range (n * s.ks.length)).map fun i => v.cells[i % v.cells.size]! := by
                rw [hz0]; simp
              simp only [execOp, ho, Instr.buildSlice, Sem.run_bind, run_underlying hu, Result.andThen_ok, run_sizeOf' hsh, if_neg hif, if_pos hz0, Sem.run_pure, hparts, hmap, h5]
              rfl
            · simp only [execOp, ho, Instr.buildSlice, Sem.run_bind, run_underlying hu, Result.andThen_ok, run_sizeOf' hsh, if_neg hif, if_neg hz0, hrun, Sem.run_pure, hparts, h5]
              rfl
          · cases hcore
        · cases hcore
      · cases hcore
    · cases hcore
  · cases hcore
theorem xvs_spec : ∀ {l : List AV} {vs : List XV}, xvs l = some vs → vs.length = l.length ∧ ∀ (i : Nat) (v : XV), vs[i]? = some v → ∃ d, l[i]? = some (.dt ⟨false, [.x]⟩ d [.x v])
  | [], vs, h => by
    simp only [xvs, Option.some.injEq] at h
    subst h
    exact ⟨rfl, fun i v hv => by simp at hv⟩
  | x :: r, vs, h => by
    unfold xvs at h
    split at h
    · rename_i h0; cases h0
    · rename_i d v r' h0
      cases h0
      split at h
      · rename_i l hl
        simp only [Option.some.injEq] at h
        subst h
        obtain ⟨h1, h2⟩ := xvs_spec hl
        refine ⟨by simp [h1], fun i v' hv => ?_⟩
        cases i with
        | zero =>
          simp only [List.getElem?_cons_zero, Option.some.injEq] at hv
          subst hv
          exact ⟨d, rfl⟩
        | succ i => simpa using h2 i v' (by simpa using hv)
      · cases h
    · cases h
theorem op_makeFunc {f : FuncId} {first cap : Array Operand} (ho : o.op = .makeFunc (.func f) first cap) (hcore : core P fc o st = some (b, out)) (hr : Rel P X w0 g0 g st a w) : Does P X w0 g0 o (st.out o.dst out) a w := by
  unfold core at hcore
  rw [ho] at hcore
  simp only at hcore
  split at hcore
  · rename_i p q hp hq
    obtain ⟨_, rfl⟩ := out_val hcore
    obtain ⟨h1, h2⟩ := xvs_spec hp
    obtain ⟨h3, h4⟩ := xvs_spec hq
    refine does_pure (v := .func (.func f) (first.map a.eval) (cap.map a.eval)) hr (mk_x (RX.fn f p q _ _ (by simp [h1]) (by simp [h3]) (fun i x v hx hv => ?_) (fun i x v hx hv => ?_))) ?_
    · obtain ⟨d, hd⟩ := h2 i x hx
      simp only [List.getElem?_map, Option.map_eq_some_iff, Array.getElem?_toList] at hd
      obtain ⟨y, hy, hy2⟩ := hd
      simp only [Array.getElem?_map, Option.map_eq_some_iff] at hv
      obtain ⟨z, hz, rfl⟩ := hv
      rw [hy] at hz
      cases hz
      have := hr.ev y
      rw [hy2] at this
      exact rv_x this
    · obtain ⟨d, hd⟩ := h4 i x hx
      simp only [List.getElem?_map, Option.map_eq_some_iff, Array.getElem?_toList] at hd
      obtain ⟨y, hy, hy2⟩ := hd
      simp only [Array.getElem?_map, Option.map_eq_some_iff] at hv
      obtain ⟨z, hz, rfl⟩ := hv
      rw [hy] at hz
      cases hz
      have := hr.ev y
      rw [hy2] at this
      exact rv_x this
    · simp only [execOp, ho, Instr.makeFunc, Sem.run_bind, Sem.run_pure, Result.andThen_ok]
  · cases hcore

/-! Stores. -/
theorem storeC_rc {s0 s : Sh} {d0 d : D} {aps0 aps : List Ap} {cs vs : List Value} {off : Nat} (h10 : s0.agg = false → s0.ks.length = 1) (h1 : s.agg = false → s.ks.length = 1) (h0 : RC P X g st w s0 d0 aps0 cs) (h : RC P X g st w s d aps vs) (hf : fits s0.ks off s = true) :
    RC P X g st w s0 (storeC s0 d0 aps0 off s d aps).1 (storeC s0 d0 aps0 off s d aps).2 (setR cs off vs) := by
  unfold storeC
  split
  · rename_i hc
    simp only [Bool.and_eq_true, beq_iff_eq] at hc
    obtain ⟨⟨⟨c1, rfl⟩, c3⟩, c4⟩ := hc
    have hl0 := h0.len
    have hl := h.len
    have hks : s0.ks = s.ks := by
      have := (Bool.and_eq_true _ _ ▸ hf : decide ((s0.ks.drop 0).take s.ks.length = s.ks) = true ∧ _).1
      rw [decide_eq_true_eq, List.drop_zero, List.take_of_length_le (by omega)] at this
      exact this
    have hss : s0 = s := by cases s0; cases s; simp_all
    subst hss
    have : setR cs 0 vs = vs := by
      rw [setR_splice cs vs 0 (by omega)]
      simp only [List.take_zero, List.nil_append, Nat.zero_add]
      rw [List.drop_eq_nil_of_le (by omega), List.append_nil]
    rw [this]
    exact h
  · exact ((h0.rcl h10).set (h.rcl h1) hf).rc h10
theorem setRow_hp {n : Nat} {cs cs' : Array Value} {e : TypeId} (hb : w.heap[n]? = some (.cells cs e (0, 0))) : (w.setRow n cs').heap[n]? = some (.cells cs' e (0, 0)) := setRow_heap w n cs cs' e (0, 0) hb
theorem Rel.store (hr : Rel P X w0 g0 g st a w) {n : Nat} {o1 o2 : Ob} {w' : World} (hnp : n ∉ st.prot) (hn : st.hp.getD n none = some o1) (hsz : w'.heap.size = w.heap.size) (hot : ∀ b, b ≠ g.mu n → w'.heap[b]? = w.heap[b]?) (hos : w'.os = w.os) (hta : w'.tape = w.tape) (hou : w'.output = w.output)
    (hx : To P X g st w g { st with hp := st.hp.set n (some o2) } w' → RO P X g { st with hp := st.hp.set n (some o2) } w' n o2) : Rel P X w0 g0 g { st with hp := st.hp.set n (some o2) } a w' := by
  have how := obj_own (hr.objs n o1 hn)
  have hln : n < st.hp.length := by
    by_cases h : n < st.hp.length
    · exact h
    · rw [List.getD_eq_getElem?_getD, List.getElem?_eq_none (by omega)] at hn
      cases hn
  have hhas : ∀ k, ({ st with hp := st.hp.set n (some o2) } : St).has k = st.has k := fun k => by
    rw [has_set]
    split
    · rename_i h
      obtain ⟨rfl, _⟩ := h
      unfold St.has
      rw [hn]
      rfl
    · rfl
  have ht : To P X g st w g { st with hp := st.hp.set n (some o2) } w' := by
    refine ⟨fun b o v hc hw => ?_, fun k hk => rfl, fun k hk => by rw [hhas]; exact hk, fun m hm => hm, fun m _ hm => ⟨hm, rfl⟩, fun b m hb _ _ => ?_, fun _ _ _ _ _ => rfl⟩
    · have hne : b ≠ g.mu n := by
        rintro rfl
        exact hw (.inr (by rw [how]; trivial))
      exact ⟨(cell_block (hot b hne)).trans hc, hw⟩
    · have hne : b ≠ g.mu n := by
        rintro rfl
        rw [how] at hb
        cases hb
      exact ⟨hot b hne, hb⟩
  refine ⟨hr.dfr, hr.siz, fun i => (hr.slot i).to ht, fun k o ho => ?_, fun m hm => ?_, ?_, hr.xlt, hr.xown, hr.tkl, hr.ptl⟩
  · simp only [getD_set] at ho
    split at ho
    · rename_i h
      obtain ⟨rfl, _⟩ := h
      cases ho
      exact hx ht
    · rename_i h
      have hro := hr.objs k o ho
      have hk := obj_own hro
      refine hro.to ht (by unfold St.has; rw [ho]; rfl) (hot _ ?_) rfl
      intro he
      rw [he, how] at hk
      cases hk
      exact h ⟨rfl, hln⟩
  · refine RT.to (g := g) (g' := g) (w := w) rfl (fun _ h => h) (fun b hb hb2 => ⟨hot b ?_, rfl⟩) (hr.toks m hm)
    rintro rfl
    exact hb2 n how
  · have hf := hr.fr
    refine ⟨hos.trans hf.os, hta.trans hf.tape, hou.trans hf.output, by rw [hsz]; exact hf.size, fun b hb h0 => ?_, fun b hb => by rw [hsz]; exact hf.lt b hb, hf.mu, fun b m s hb h0 => ?_, hf.rho, hf.back⟩
    · have h1 := hf.old b hb h0
      refine ⟨(hot b ?_).trans h1.1, h1.2⟩
      rintro rfl
      rw [how] at h1
      rw [← h1.2] at h0
      exact hnp h0
    · have h1 := hf.tl b m s hb h0
      refine ⟨fun o v ho hv => (cell_block (hot b ?_)).trans (h1.1 o v ho hv), h1.2⟩
      rintro rfl
      rcases h1.2 with h2 | ⟨_, _, h2, _⟩ <;> rw [how] at h2 <;> cases h2
theorem op_store {t : TypeId} {x y : Operand} (ho : o.op = .store t x y) (hcore : core P fc o st = some (b, out)) (hr : Rel P X w0 g0 g st a w) : Does P X w0 g0 o (st.out o.dst out) a w := by
  unfold core at hcore
  rw [ho] at hcore
  simp only at hcore
  have hx := hr.ev x
  split at hcore
  · rename_i d n off s s' dv aps he hs hc
    rw [he] at hx
    have hp := rv_x hx
    have hv := cast_rv (t := t) (hr.ev y)
    rw [hc] at hv
    split at hcore
    · rename_i s0 d0 aps0 hob
      split at hcore
      · rename_i hcond
        simp only [Bool.and_eq_true, decide_eq_true_eq, Bool.not_eq_true'] at hcond
        obtain ⟨⟨⟨rfl, hal⟩, hf⟩, hnp⟩ := hcond
        simp only [Option.some.injEq, Prod.mk.injEq] at hcore
        obtain ⟨_, rfl⟩ := hcore
        obtain ⟨cs, e, h1, h2, h10, h3⟩ := hr.objs n _ hob
        generalize hxv : a.eval x = u at hp
        cases hp with
        | ptr _ _ hn =>
          obtain ⟨f1, f2, f3⟩ := fits_spec hf
          have hl3 := h3.len
          have hlv := hv.2.len
          simp only [Array.length_toList] at hl3 hlv
          have hst : (storeVar t ⟨g.mu n, off, none⟩ (a.eval y)).run P w = .ok () (w.setRow (g.mu n) (setR cs.toList off (a.eval y).cells.toList).toArray) := by
            have := run_storeCells_at P (g.mu n) off e (a.eval y).cells.toList 0 cs w h1 (by simp [hlv]; omega) (rc_one hv.2)
            rw [Nat.add_zero] at this
            rw [setR_splice _ _ _ (by simp [hlv]; omega)]
            simp only [storeVar, Sem.run_bind, run_sizeOf' hs, Result.andThen_ok]
            rw [if_neg (by simp [hlv])]
            exact this
          refine does_skip (w' := w.setRow (g.mu n) (setR cs.toList off (a.eval y).cells.toList).toArray) (hr.store (by simpa using hnp) hob (by simp [World.setRow]) (fun b hb => setRow_other w (g.mu n) b _ hb) rfl rfl rfl (fun ht => ⟨_, e, setRow_hp h1, h2, h10, ?_⟩)) ?_
          · have := (storeC_rc h10 (shOne hs) h3 hv.2 hf).to ht
            simpa using this
          · simp only [execOp, ho, Instr.storeAt, Instr.sureAddr, hxv, Sem.run_bind, Sem.run_pure, Result.andThen_ok, hst]
      · cases hcore
    · cases hcore
  · cases hcore
end
end Go.Proofs.Ytkimdfpmblhapaa.Va

/- append. -/
set_option linter.unusedVariables false
set_option linter.unusedSimpArgs false
namespace Go.Proofs.Ytkimdfpmblhapaa.Va
open Go.RowKit

section
variable {P : Program} {X : Nat → Nat → Prop} {w0 : World} {g0 g g' : Gho} {st st' : St} {a : Act} {w w' : World} {fc : FCfg} {o : Oper} {b : Bool} {out : Out}

def wasTk (h : Gh) : Option Nat → Prop
  | none => False
  | some m => h.isTk m
theorem getD_tk (l : List (Option Bool)) (i j : Nat) (x : Option Bool) : (l.set i x).getD j none = if i = j ∧ j < l.length then x else l.getD j none := getD_set l i j x none
theorem freeTk_spec {n : Nat} (h : freeTk st n = true) : st.tb + n < st.tk.length ∧ st.tk.getD (st.tb + n) none = none ∧ st.tb + n ∉ st.protT := by
  unfold freeTk at h
  simp only [Bool.and_eq_true, decide_eq_true_eq, Option.isNone_iff_eq_none] at h
  refine ⟨h.1.1, ?_, by simpa using h.2⟩
  rw [List.getD_eq_getElem?_getD, List.getElem?_eq_getElem h.1.1] at h ⊢
  exact h.1.2
theorem liveTk_iff {m : Nat} : liveTk st m = true ↔ st.tk.getD m none = some true := by
  unfold liveTk
  split <;> simp_all
theorem Rel.app (hr : Rel P X w0 g0 g st a w) {was : Option Nat} {now : Nat} {own' : Nat → Gh} {vs : Value × Nat}
    (hnow : now < st.tk.length) (hfree : st.tk.getD now none = none) (hnp : now ∉ st.protT) (hwp : ∀ q, was = some q → q ∉ st.protT)
    (h1 : ∀ b, (own' b = g.own b ∧ ¬ wasTk (g.own b) was) ∨ ((wasTk (g.own b) was ∨ w.heap.size ≤ b) ∧ (own' b = .dat ∨ (own' b).isTk now)))
    (h2 : Stay w (Wr X g) w' (Wr X { g with rho := upd g.rho now vs, own := own' }))
    (h3 : ∀ b, b < w.heap.size → ¬ wasTk (g.own b) was → w'.heap[b]? = w.heap[b]?) (hsz : w.heap.size ≤ w'.heap.size)
    (hos : w'.os = w.os) (hta : w'.tape = w.tape) (hou : w'.output = w.output)
    (h4 : RT { g with rho := upd g.rho now vs, own := own' } w' now)
    (h5 : ∀ b m s, b < w.heap.size → was = some m → g.own b = .tl m s → (∀ o v, o < s → w.cell? ⟨b, o, none⟩ = some v → w'.cell? ⟨b, o, none⟩ = some v) ∧ (own' b = .dat ∨ ∃ m' s', own' b = .tl m' s' ∧ s ≤ s'))
    (h6 : ∀ b, own' b ≠ .dat → b < w'.heap.size) :
    To P X g st w { g with rho := upd g.rho now vs, own := own' } (HE.on st (.app was now)) w' ∧ Rel P X w0 g0 { g with rho := upd g.rho now vs, own := own' } (HE.on st (.app was now)) a w' := by
  have hhp : (HE.on st (.app was now)).hp = st.hp := by cases was <;> rfl
  have hfr : (HE.on st (.app was now)).fr = st.fr := by cases was <;> rfl
  have hnb : (HE.on st (.app was now)).nb = st.nb := by cases was <;> rfl
  have htk : ∀ m, (HE.on st (.app was now)).tk.getD m none = if now = m then some true else if was = some m ∧ m < st.tk.length then some false else st.tk.getD m none := fun m => by
    cases was with
    | none =>
      simp only [HE.on, getD_tk]
      by_cases hm : now = m
      · subst hm; simp [hnow]
      · simp [hm]
    | some q =>
      simp only [HE.on, getD_tk, List.length_set]
      by_cases hm : now = m
      · subst hm; simp [hnow]
      · simp only [hm, false_and, if_false, Option.some.injEq]
  have hkn : ∀ m, knownTk st m → m ≠ now := fun m hm => by
    rintro rfl
    unfold knownTk at hm
    rw [hfree] at hm
    cases hm
  have hlv : ∀ m, liveTk (HE.on st (.app was now)) m = true → m = now ∨ (m ≠ now ∧ was ≠ some m ∧ liveTk st m = true) := fun m hm => by
    rw [liveTk_iff, htk] at hm
    by_cases h : now = m
    · exact .inl h.symm
    · rw [if_neg h] at hm
      split at hm
      · cases hm
      · rename_i hw
        have hl : liveTk st m = true := liveTk_iff.2 hm
        refine .inr ⟨fun e => h e.symm, fun e => hw ⟨e, ?_⟩, hl⟩
        by_cases hlt : m < st.tk.length
        · exact hlt
        · rw [List.getD_eq_getElem?_getD, List.getElem?_eq_none (by omega)] at hm
          cases hm
  have hhas : ∀ n, (HE.on st (.app was now)).has n = st.has n := fun n => by unfold St.has; rw [hhp]
  have hnw : ∀ {b m : Nat}, g.own b = .rw m ∨ (∃ s, g.own b = .tl m s) → was ≠ some m → ¬ wasTk (g.own b) was := fun {b m} hb hne hw => by
    cases was with
    | none => exact hw
    | some q =>
      have hq : q ≠ m := fun e => hne (by rw [e])
      rcases hw with ⟨s, hw⟩ | hw <;> rcases hb with hb | ⟨s', hb⟩ <;> rw [hb] at hw <;> cases hw <;> exact hq rfl
  have ht : To P X g st w { g with rho := upd g.rho now vs, own := own' } (HE.on st (.app was now)) w' := by
    refine ⟨h2, fun _ _ => rfl, fun n hn => by rw [hhas]; exact hn, fun m hm => ?_, fun m hm hl => ?_, fun b m hb hm hl => ?_, fun b m hm hl hb => ?_⟩
    · unfold knownTk
      rw [htk]
      split
      · rfl
      · split
        · rfl
        · exact hm
    · rcases hlv m hl with h | ⟨hne, _, h⟩
      · exact absurd h (hkn m hm)
      · exact ⟨h, upd_ne _ _ hne⟩
    · rcases hlv m hl with h | ⟨hne, hwn, h⟩
      · exact absurd h (hkn m hm)
      · have hnt := hnw (.inl hb) hwn
        have hlt := hr.fr.lt b (by rw [hb]; simp)
        refine ⟨h3 b hlt hnt, ?_⟩
        rcases h1 b with h | ⟨h | h, _⟩
        · exact h.1.trans hb
        · exact absurd h hnt
        · omega
    · rcases h1 b with h | ⟨_, h | h⟩
      · exact h.1
      · simp only at hb
        rw [h] at hb
        rcases hb with ⟨_, hb⟩ | hb <;> cases hb
      · exfalso
        refine hkn m hm ?_
        simp only at hb
        rcases hb with ⟨_, hb⟩ | hb <;> rcases h with ⟨_, h⟩ | h <;> rw [h] at hb <;> cases hb <;> rfl
  refine ⟨ht, hr.dfr, by rw [hfr]; exact hr.siz, fun i => by rw [hfr]; exact (hr.slot i).to ht, fun n o ho => ?_, fun m hm => ?_, ?_, hr.xlt, fun b o hx => ?_, fun b m hb => ?_, fun m hm => ?_⟩
  · rw [hhp] at ho
    have hro := hr.objs n o ho
    have hown := obj_own hro
    have hnt : ¬ wasTk (g.own (g.mu n)) was := fun hw => by
      cases was with
      | none => exact hw
      | some q => rcases hw with ⟨s, hw⟩ | hw <;> rw [hown] at hw <;> cases hw
    have hlt := hr.fr.lt (g.mu n) (by rw [hown]; simp)
    refine hro.to ht (by unfold St.has; rw [ho]; rfl) (h3 _ hlt hnt) ?_
    rcases h1 (g.mu n) with h | ⟨h | h, _⟩
    · exact h.1
    · exact absurd h hnt
    · omega
  · rcases hlv m hm with rfl | ⟨hne, hwn, h⟩
    · exact h4
    · refine (hr.toks m h).to' (g' := { g with rho := upd g.rho now vs, own := own' }) (upd_ne _ _ hne) (fun b hb => ?_) (fun b hb => ?_)
      · rcases h1 b with h | ⟨_, h | h⟩
        · exact h.1.symm.trans hb
        · simp only at hb
          rw [h] at hb
          cases hb
        · simp only at hb
          rw [hb] at h
          rcases h with ⟨_, h⟩ | h <;> cases h
          exact absurd rfl hne
      have hnt := hnw (b := b) (m := m) (by rcases hb with hb | hb; exact .inr hb; exact .inl hb) hwn
      have hlt := hr.fr.lt b (by rcases hb with ⟨_, hb⟩ | hb <;> rw [hb] <;> simp)
      refine ⟨h3 b hlt hnt, ?_⟩
      rcases h1 b with h | ⟨h | h, _⟩
      · exact h.1
      · exact absurd h hnt
      · omega
  · have hpr : (HE.on st (.app was now)).prot = st.prot := by cases was <;> rfl
    have hprM : (HE.on st (.app was now)).protM = st.protM := by cases was <;> rfl
    have hprT : (HE.on st (.app was now)).protT = st.protT := by cases was <;> rfl
    rw [hnb, hpr, hprM, hprT]
    have hf := hr.fr
    refine ⟨hos.trans hf.os, hta.trans hf.tape, hou.trans hf.output, Nat.le_trans hf.size hsz, fun b hb h0 => ?_, h6, hf.mu, fun b m s hb h0 => ?_, fun m hm => (upd_ne _ _ (by rintro rfl; exact hnp hm)).trans (hf.rho m hm), fun b m hm hb => ?_⟩
    · have ho := hf.old b hb h0
      have hnt : ¬ wasTk (g.own b) was := fun hw => by
        rw [ho.2] at hw
        cases was with
        | none => exact hw
        | some q => rcases hw with ⟨s, hw⟩ | hw <;> rw [hw] at h0 <;> exact hwp q rfl h0
      have hlt : b < w.heap.size := Nat.lt_of_lt_of_le hb hf.size
      refine ⟨(h3 b hlt hnt).trans ho.1, ?_⟩
      rcases h1 b with h | ⟨h | h, _⟩
      · exact h.1.trans ho.2
      · exact absurd h hnt
      · omega
    · have ho := hf.tl b m s hb h0
      have hlt : b < w.heap.size := Nat.lt_of_lt_of_le hb hf.size
      by_cases hw : wasTk (g.own b) was
      · cases was with
        | none => exact hw.elim
        | some q =>
          rcases ho.2 with h | ⟨m', s', h, hs⟩
          · rw [h] at hw; rcases hw with ⟨_, hw⟩ | hw <;> cases hw
          · rw [h] at hw
            rcases hw with ⟨s2, hw⟩ | hw
            · cases hw
              obtain ⟨h7, h8⟩ := h5 b _ s' hlt rfl h
              refine ⟨fun o v hov hv => h7 o v (by omega) (ho.1 o v hov hv), ?_⟩
              rcases h8 with h8 | ⟨m2, s2, h8, h9⟩
              · exact .inl h8
              · exact .inr ⟨m2, s2, h8, by omega⟩
            · cases hw
      · refine ⟨fun o v hov hv => (cell_block (h3 b hlt hw)).trans (ho.1 o v hov hv), ?_⟩
        rcases h1 b with ⟨h, _⟩ | ⟨h | h, _⟩
        · show own' b = .dat ∨ ∃ m' s', own' b = .tl m' s' ∧ s ≤ s'
          rw [h]; exact ho.2
        · exact absurd h hw
        · omega
    · rcases h1 b with h | ⟨_, h | h⟩
      · rw [show ({ g with rho := upd g.rho now vs, own := own' } : Gho).own b = own' b from rfl, h.1] at hb ⊢
        exact hf.back b m hm hb
      · rw [show ({ g with rho := upd g.rho now vs, own := own' } : Gho).own b = own' b from rfl, h] at hb
        rcases hb with ⟨_, hb⟩ | hb <;> cases hb
      · exfalso
        rw [show ({ g with rho := upd g.rho now vs, own := own' } : Gho).own b = own' b from rfl] at hb
        rcases h with ⟨_, h⟩ | h <;> rw [h] at hb <;> rcases hb with ⟨_, hb⟩ | hb <;> cases hb <;> exact hnp hm
  · have h0 := hr.xown b o hx
    have hlt := hr.xlt b o hx
    have hsz0 := hr.fr.size
    rcases h1 b with h | ⟨h | h, _⟩
    · exact h.1.trans h0
    · rw [h0] at h
      cases was with
      | none => exact h.elim
      | some q => rcases h with ⟨s, h⟩ | h <;> cases h
    · omega
  · have hlive : ∀ m, g.own b = own' b → (g.own b).isTk m → ¬ wasTk (g.own b) was → liveTk (HE.on st (.app was now)) m = true := fun m he hm hw => by
      have hl := hr.tkl b m hm
      have h2' := liveTk_iff.1 hl
      rw [liveTk_iff, htk]
      split
      · rfl
      · rw [if_neg]
        · exact h2'
        · rintro ⟨rfl, _⟩
          exact hw hm
    simp only at hb
    rcases h1 b with ⟨h, hw⟩ | ⟨_, h | h⟩
    · rw [h] at hb
      exact hlive m h.symm hb hw
    · rw [h] at hb
      rcases hb with ⟨_, hb⟩ | hb <;> cases hb
    · have : m = now := by rcases hb with ⟨_, hb⟩ | hb <;> rcases h with ⟨_, h⟩ | h <;> rw [h] at hb <;> cases hb <;> rfl
      subst this
      rw [liveTk_iff, htk, if_pos rfl]
  · have hprT : (HE.on st (.app was now)).protT = st.protT := by cases was <;> rfl
    rw [hprT] at hm
    rw [liveTk_iff, htk]
    split
    · rfl
    · rw [if_neg]
      · exact liveTk_iff.1 (hr.ptl m hm)
      · rintro ⟨h, _⟩
        exact hwp m h hm
theorem RRs.mono {W W' : Nat → Nat → Prop} {s : Sh} {n : Nat} {ds : List D} {cs : List Value} (hs : Stay w W w' W') (h : RRs P W w s n ds cs) : RRs P W' w' s n ds cs :=
  ⟨h.len, h.lds, h.one, fun i j k hi hj => (h.rl i j k hi hj).mono hs⟩
theorem RRs.append {W : Nat → Nat → Prop} {s : Sh} {n m : Nat} {ds ds' : List D} {xs ys : List Value} (h : RRs P W w s n ds xs) (h' : RRs P W w s m ds' ys) : RRs P W w s (n + m) (ds ++ ds') (xs ++ ys) := by
  have hl := h.len
  have hd := h.lds
  refine ⟨by rw [List.length_append, hl, h'.len, Nat.add_mul], by rw [List.length_append, hd, h'.lds], fun v hv => ?_, fun i j k hi hj => ?_⟩
  · rcases List.mem_append.1 hv with hv | hv
    · exact h.one v hv
    · exact h'.one v hv
  · have hjl : j < s.ks.length := (List.getElem?_eq_some_iff.1 hj).1
    by_cases hin : i < n
    · have hlt := idx_lt hin hjl
      have e1 : (ds ++ ds').getD i (.int 0) = ds.getD i (.int 0) := by
        simp only [List.getD_eq_getElem?_getD]
        rw [List.getElem?_append_left (by omega)]
      have e2 : (xs ++ ys).getD (i * s.ks.length + j) undef = xs.getD (i * s.ks.length + j) undef := by
        simp only [List.getD_eq_getElem?_getD]
        rw [List.getElem?_append_left (by omega)]
      rw [e1, e2]
      exact h.rl i j k hin hj
    · obtain ⟨q, rfl⟩ : ∃ q, i = n + q := ⟨i - n, by omega⟩
      have e1 : (ds ++ ds').getD (n + q) (.int 0) = ds'.getD q (.int 0) := by
        simp only [List.getD_eq_getElem?_getD]
        rw [List.getElem?_append_right (by omega), hd, Nat.add_sub_cancel_left]
      have e2 : (xs ++ ys).getD ((n + q) * s.ks.length + j) undef = ys.getD (q * s.ks.length + j) undef := by
        simp only [List.getD_eq_getElem?_getD]
        rw [List.getElem?_append_right (by rw [hl, Nat.add_mul]; omega), hl]
        congr 2
        rw [Nat.add_mul]
        omega
      rw [e1, e2]
      exact h'.rl q j k (by omega) hj
/-- The cells of a slice in line. -/
theorem SlD.flat {W : Nat → Nat → Prop} {s : Sh} (hp : s.plain = true) {d : D} {v : Value} {a : Option Addr} {n c b o : Nat} {u : Nat → Nat → Value} (h : SlD P w W s d v a n c b o u) :
    ∃ xs, RRs P W w s n d.toL xs ∧ ∀ j x, xs[j]? = some x → w.cell? ⟨b, o + j, none⟩ = some x ∧ ¬ W b (o + j) := by
  refine ⟨(List.range (n * s.ks.length)).map fun k => u (k / s.ks.length) (k % s.ks.length), ⟨by simp, h.hn, fun v hv => ?_, fun i j k hi hj => ?_⟩, fun j x hx => ?_⟩
  · simp only [List.mem_map, List.mem_range] at hv
    obtain ⟨q, hq, rfl⟩ := hv
    have hpos : 0 < s.ks.length := by
      rcases Nat.eq_zero_or_pos s.ks.length with h0 | h0
      · rw [h0] at hq; simp at hq
      · exact h0
    have hi : q / s.ks.length < n := (Nat.div_lt_iff_lt_mul hpos).2 hq
    have hm := Nat.mod_lt q hpos
    exact (h.rl _ _ _ hi (List.getElem?_eq_getElem hm)).one (plain_ne hp (List.getElem?_eq_getElem hm))
  · have hjl : j < s.ks.length := (List.getElem?_eq_some_iff.1 hj).1
    have hlt := idx_lt hi hjl
    have e : ((List.range (n * s.ks.length)).map fun k => u (k / s.ks.length) (k % s.ks.length)).getD (i * s.ks.length + j) undef = u i j := by
      simp only [List.getD_eq_getElem?_getD, List.getElem?_map, List.getElem?_range hlt, Option.map_some, Option.getD_some]
      rw [Nat.add_comm, Nat.add_mul_div_right _ _ (by omega), Nat.div_eq_of_lt hjl, Nat.add_mul_mod_self_right, Nat.mod_eq_of_lt hjl, Nat.zero_add]
    rw [e]
    exact h.rl i j k hi hj
  · have hjl : j < n * s.ks.length := by simpa using (List.getElem?_eq_some_iff.1 hx).1
    have hpos : 0 < s.ks.length := by
      rcases Nat.eq_zero_or_pos s.ks.length with h0 | h0
      · rw [h0] at hjl; simp at hjl
      · exact h0
    have hi : j / s.ks.length < n := (Nat.div_lt_iff_lt_mul hpos).2 hjl
    have hm := Nat.mod_lt j hpos
    simp only [List.getElem?_map, List.getElem?_range hjl, Option.map_some, Option.some.injEq] at hx
    subst hx
    have := h.cell _ _ hi hm
    have e : j / s.ks.length * s.ks.length + j % s.ks.length = j := by rw [Nat.mul_comm]; exact Nat.div_add_mod j _
    rw [e] at this
    exact this
theorem RRow.flat {s : Sh} {e : TypeId} (hs : shp P e = some s) {W : Nat → Nat → Prop} {m : Nat} {d : D} {v : Value} (h : RRow P g w W m (.sl e) d v) :
    ∃ a n c b o xs, v = .slice a n c ∧ n ≤ c ∧ n ≤ 140737488355328 ∧ (0 < n → a = some ⟨b, o, none⟩ ∧ g.own b = .rw m) ∧ g.rho m = (v, s.ks.length) ∧ RRs P W w s n d.toL xs ∧ ∀ j x, xs[j]? = some x → w.cell? ⟨b, o + j, none⟩ = some x := by
  obtain ⟨e', s', a, n, c, b, o, u, h1, h2, h3, h4, h5, h6, h7, h8, h9, h10⟩ := h
  cases h1
  rw [hs] at h2
  cases h2
  have hp := (shp_sh hs).2
  refine ⟨a, n, c, b, o, (List.range (n * s.ks.length)).map fun k => u (k / s.ks.length) (k % s.ks.length), h3, h6, h7, h8, h4, ⟨by simp, h5, fun v hv => ?_, fun i j k hi hj => ?_⟩, fun j x hx => ?_⟩
  · simp only [List.mem_map, List.mem_range] at hv
    obtain ⟨q, hq, rfl⟩ := hv
    have hpos : 0 < s.ks.length := by
      rcases Nat.eq_zero_or_pos s.ks.length with h0 | h0
      · rw [h0] at hq; simp at hq
      · exact h0
    have hi : q / s.ks.length < n := (Nat.div_lt_iff_lt_mul hpos).2 hq
    have hm := Nat.mod_lt q hpos
    exact (h10 _ _ _ hi (List.getElem?_eq_getElem hm)).one (plain_ne hp (List.getElem?_eq_getElem hm))
  · have hjl : j < s.ks.length := (List.getElem?_eq_some_iff.1 hj).1
    have hlt := idx_lt hi hjl
    have e : ((List.range (n * s.ks.length)).map fun k => u (k / s.ks.length) (k % s.ks.length)).getD (i * s.ks.length + j) undef = u i j := by
      simp only [List.getD_eq_getElem?_getD, List.getElem?_map, List.getElem?_range hlt, Option.map_some, Option.getD_some]
      rw [Nat.add_comm, Nat.add_mul_div_right _ _ (by omega), Nat.div_eq_of_lt hjl, Nat.add_mul_mod_self_right, Nat.mod_eq_of_lt hjl, Nat.zero_add]
    rw [e]
    exact h10 i j k hi hj
  · have hjl : j < n * s.ks.length := by simpa using (List.getElem?_eq_some_iff.1 hx).1
    have hpos : 0 < s.ks.length := by
      rcases Nat.eq_zero_or_pos s.ks.length with h0 | h0
      · rw [h0] at hjl; simp at hjl
      · exact h0
    have hi : j / s.ks.length < n := (Nat.div_lt_iff_lt_mul hpos).2 hjl
    have hm := Nat.mod_lt j hpos
    simp only [List.getElem?_map, List.getElem?_range hjl, Option.map_some, Option.some.injEq] at hx
    subst hx
    have := h9 _ _ hi hm
    have e : j / s.ks.length * s.ks.length + j % s.ks.length = j := by rw [Nat.mul_comm]; exact Nat.div_add_mod j _
    rw [e] at this
    exact this
theorem rows_cell {s : Sh} {n : Nat} {W : Nat → Nat → Prop} {ds : List D} {xs : List Value} (h : RRs P W w s n ds xs) {b : Nat} {cs : Array Value} {e : TypeId} {f : Nat × Nat} (hb : w'.heap[b]? = some (.cells cs e f)) (hpre : ∀ k, k < n * s.ks.length → cs[k]? = xs[k]?) {i j : Nat} (hi : i < n) (hj : j < s.ks.length) :
    w'.cell? ⟨b, 0 + (i * s.ks.length + j), none⟩ = some (xs.getD (i * s.ks.length + j) undef) := by
  have hlt := idx_lt hi hj
  have hl := h.len
  rw [cell_at hb, Nat.zero_add, hpre _ hlt, List.getD_eq_getElem?_getD, List.getElem?_eq_getElem (by omega)]
  rfl
theorem rl_of_rows {W : Nat → Nat → Prop} {e : TypeId} {s : Sh} {n c b : Nat} {ds : List D} {xs : List Value} {cs : Array Value} {e' : TypeId} {f : Nat × Nat} (hs : shp P e = some s) (h : RRs P W w s n ds xs) (hb : w.heap[b]? = some (.cells cs e' f)) (hpre : ∀ k, k < n * s.ks.length → cs[k]? = xs[k]?)
    (hw : ∀ k, k < n * s.ks.length → ¬ W b k) (hc : n ≤ c) (hm : n ≤ 140737488355328) : RL P w W (.sl e) (.sl ds) (.slice (some ⟨b, 0, none⟩) n c) :=
  .sl e s (.sl ds) _ n c b 0 (fun i j => xs.getD (i * s.ks.length + j) undef) hs h.lds hc hm (fun _ => rfl) (fun i j hi hj => ⟨rows_cell h hb hpre hi hj, by rw [Nat.zero_add]; exact hw _ (idx_lt hi hj)⟩) (fun i j k hi hj => h.rl i j k hi hj)
theorem row_of_rows {W : Nat → Nat → Prop} {e : TypeId} {s : Sh} {n c b m : Nat} {ds : List D} {xs : List Value} {cs : Array Value} {e' : TypeId} {f : Nat × Nat} (hs : shp P e = some s) (h : RRs P W w s n ds xs) (hb : w.heap[b]? = some (.cells cs e' f)) (hpre : ∀ k, k < n * s.ks.length → cs[k]? = xs[k]?)
    (how : g.own b = .rw m) (hrho : g.rho m = (.slice (some ⟨b, 0, none⟩) n c, s.ks.length)) (hc : n ≤ c) (hm : n ≤ 140737488355328) : RRow P g w W m (.sl e) (.sl ds) (.slice (some ⟨b, 0, none⟩) n c) :=
  ⟨e, s, _, n, c, b, 0, fun i j => xs.getD (i * s.ks.length + j) undef, rfl, hs, rfl, hrho, h.lds, hc, hm, fun _ => ⟨rfl, how⟩, fun i j hi hj => rows_cell h hb hpre hi hj, fun i j k hi hj => h.rl i j k hi hj⟩
end
end Go.Proofs.Ytkimdfpmblhapaa.Va
