/- Plain lemmas: the program's Resolve comes to the same; shape and places are kept. Conditions: each theorem's own. -/
import Derived.Test.YtkimdfpmblhapaaS2
set_option linter.unusedVariables false
set_option linter.unusedSimpArgs false
set_option linter.constructorNameAsVariable false
/- The program: what is found; names. -/
set_option linter.unusedVariables false
set_option linter.unusedSimpArgs false
namespace Go.Proofs.Ytkimdfpmblhapaa.Va
/-- What the program knows at a place. -/
def scopeD (m : T) (loc : List ByteArray) (a e : Int) : D := .agg [.int 0, .int m.k, .int m.n, .str m.s, .sl (encs m.l), .int m.f, .int m.t, locD loc, .int a, .int e]
structure MapOk (m : T) (o : D) : Prop where
  has : ∀ s, mhas .str (.str s) o.toL = decide (0 ≤ declN s 0 m.l)
  get : ∀ s, 0 ≤ declN s 0 m.l → mget .str (.int 0) (.str s) o.toL = .int (declN s 0 m.l)
/-- What a function of the program comes to. -/
def PT (m : T) (loc : List ByteArray) (sz : Nat) (res : Res T) (loc' : List ByteArray) (r : R) : Prop := match res with
  | .ok x => r = (0, [x.enc, scopeD m loc' 0 0])
  | .bad a e => ∃ d loc2, r = (0, [d, scopeD m loc2 a e]) ∧ loc.length ≤ loc2.length ∧ loc2.length ≤ loc.length + sz ∧ e ≠ 0
variable {m : T} {o : D}
theorem sc7 (loc : List ByteArray) (a e : Int) : (scopeD m loc a e).cell 7 = locD loc := rfl
theorem sc9 (loc : List ByteArray) (a e : Int) : (scopeD m loc a e).cell 9 = .int e := rfl
theorem sc8 (loc : List ByteArray) (a e : Int) : (scopeD m loc a e).cell 8 = .int a := rfl
theorem sc4 (loc : List ByteArray) (a e : Int) : (scopeD m loc a e).cell 4 = .sl (encs m.l) := rfl
theorem fail_ev (x : T) (loc : List ByteArray) (e : Int) : Ev (fun n => F52 n x.enc (.int e) (scopeD m loc 0 0) o) (0, [scopeD m loc x.f e]) := by
  refine .step (fun n => F52_eq n _ _ _ _) ?_
  simp only [sc9, D.toInt, T.cell4]
  exact .pos (by decide) (.ret _ _)
theorem find_loop (hm : m.l.length ≤ 1000) (loc : List ByteArray) (x : T) (x5 : D) (j : Nat) (hj : j < m.l.length) (ks : List Int) (hks : ks.length ≤ 100) : ∀ (d i : Nat), ks.length - i ≤ d → i ≤ ks.length → (m.l[j]).k ∉ ks.take i →
    EvP2 (fun n k => L54_4 n (.int j) (.sl (ks.map .int)) (.int ((ks.map D.int).length : Int)) (scopeD m loc 0 0) o x5 k [.int i]) (fun r => ((m.l[j]).k ∈ ks ∧ r = (1, [.int j, .int (m.l[j]).k])) ∨ ((m.l[j]).k ∉ ks ∧ r = (2, [])))
  | d, i, hd, hi, hn => by
    refine .step (fun n k => L54_4_s n k _ _ _ _ _ _ _) ?_
    simp only [D.toInt, toL_sl, List.length_map, sc4, encs_length]
    refine .ite (fun h => ?_) (fun h => .ret (.inr ⟨?_, rfl⟩))
    · have hlt : i < ks.length := by simpa using h
      refine .ite (fun _ => .ite (fun _ => ?_) (fun h => absurd (inR_nat hj) h)) (fun h => absurd (inR_nat hlt) h)
      have hg : (ks.map D.int).getD ((i : Int).toNat) (D.int 0) = .int (ks[i]) := by simp [hlt]
      simp only [getD_encs _ hj, hg, T.cell0, D.toInt]
      refine .ite (fun h => ?_) (fun h => ?_)
      · have h : (m.l[j]).k = ks[i] := by simpa using h
        exact .ret (.inl ⟨by rw [h]; exact List.getElem_mem hlt, by rw [h]⟩)
      · have h : ¬ (m.l[j]).k = ks[i] := by simpa using h
        rw [W1 (by omega)]
        match d, hd with
        | 0, hd => omega
        | d + 1, hd =>
          have := find_loop hm loc x x5 j hj ks hks d (i + 1) (by omega) (by omega) (fun hm2 => by
            rw [List.take_succ_eq_append_getElem hlt] at hm2
            rcases List.mem_append.1 hm2 with h2 | h2
            · exact hn h2
            · rw [List.mem_singleton] at h2; exact h h2)
          simpa only [List.length_map] using this
    · have h : ks.length ≤ i := by simpa using h
      rwa [List.take_of_length_le h] at hn
theorem find_ev (hm : m.l.length ≤ 1000) (hM : MapOk m o) (loc : List ByteArray) (x : T) (ks : List Int) (hks : ks.length ≤ 100) (h0 : (0 : Int) ∉ ks) : EvP (fun n => F54 n x.enc (.sl (ks.map .int)) (scopeD m loc 0 0) o)
    (fun r => (declK x.s m.l ∈ ks ∧ r = (0, [.int (declN x.s 0 m.l), .int (declK x.s m.l), scopeD m loc 0 0])) ∨ (declK x.s m.l ∉ ks ∧ r = (0, [.int 0, .int 0, scopeD m loc x.f 8]))) := by
  refine .step (fun n => F54_eq n _ _ _ _) ?_
  simp only [T.cell2, hM.has]
  obtain ⟨h1, h2⟩ := declK_at x.s m.l 0
  refine .ite (fun h => ?_) (fun h => ?_)
  · have h : 0 ≤ declN x.s 0 m.l := by simpa using h
    obtain ⟨j, hj⟩ : ∃ j : Nat, declN x.s 0 m.l = (j : Int) := ⟨(declN x.s 0 m.l).toNat, by omega⟩
    obtain ⟨h3, h4⟩ := h2 j (by rw [hj, Nat.zero_add])
    rw [hM.get _ h, hj]
    simp only [toL_sl]
    refine .bind (find_loop hm loc x x.enc j h3 ks hks _ 0 (Nat.le_refl _) (Nat.zero_le _) (by simp)).diag ?_
    rintro _ (⟨h5, rfl⟩ | ⟨h5, rfl⟩)
    · refine .ite (fun _ => .ret (.inl ⟨by rw [h4]; exact h5, by rw [h4]; rfl⟩)) (fun h => absurd rfl h)
    · refine .ite (fun h => absurd h (by simp)) (fun _ => .ite (fun _ => ?_) (fun h => absurd rfl h))
      exact .bindE (fail_ev x loc 8) (.ret (.inr ⟨by rw [h4]; exact h5, rfl⟩))
  · have h : ¬ 0 ≤ declN x.s 0 m.l := by simpa using h
    have hk : declK x.s m.l = 0 := by
      rcases declN_bound x.s m.l 0 with hb | ⟨hb, _⟩
      · exact h1 hb
      · omega
    exact .bindE (fail_ev x loc 8) (.ret (.inr ⟨by rw [hk]; exact h0, rfl⟩))
theorem localN_ge (s : ByteArray) : ∀ (l : List ByteArray) (i : Nat), localN s i l = -1 ∨ (i : Int) ≤ localN s i l
  | [], i => .inl rfl
  | x :: r, i => by
    unfold localN
    split
    · exact .inr (Int.le_refl _)
    · rcases localN_ge s r (i + 1) with h | h
      · exact .inl h
      · exact .inr (by omega)
/-- The loop over the locals, from the last one on. -/
theorem value_loop (hloc : List ByteArray) (hl : hloc.length ≤ 900000) (x : T) (f t : Int) : ∀ (d i : Nat), hloc.length - i ≤ d → i ≤ hloc.length →
    EvP2 (fun n k => L53_3 n (scopeD m hloc 0 0) o x.enc k [.int ((hloc.length : Int) - 1 - i), .agg [.int 0, .int 0, .str ⟨#[]⟩, .sl [], .int f, .int t], T.zero.enc])
    (fun r => (0 ≤ localN x.s i (hloc.reverse.drop i) ∧ ∃ d, r = (1, [d, (T.mk 7 (localN x.s i (hloc.reverse.drop i)) ⟨#[]⟩ [] f t).enc])) ∨ (localN x.s i (hloc.reverse.drop i) = -1 ∧ r = (2, [.agg [.int 0, .int 0, .str ⟨#[]⟩, .sl [], .int f, .int t], T.zero.enc])))
  | d, i, hd, hi => by
    refine .step (fun n k => L53_3_s n k _ _ _ _ _ _) ?_
    simp only [sc7, D.toInt, locD_len, T.cell2]
    have hw0 : IntKind.i64.wrap ((hloc.length : Int) - 1) = (hloc.length : Int) - 1 := wrap64_of (by omega) (by omega)
    refine .ite (fun h => ?_) (fun h => .ret (.inr ⟨?_, rfl⟩))
    · have hlt : i < hloc.length := by simp at h; omega
      have hlt2 : i < hloc.reverse.length := by simpa using hlt
      rw [List.drop_eq_getElem_cons hlt2]
      refine .ite (fun _ => ?_) (fun h => absurd (inR_pos (by omega) (by omega)) h)
      have hg : (locD hloc).toL.getD (((hloc.length : Int) - 1 - i).toNat) (.int 0) = .str (hloc.reverse[i]) := by
        rw [show (((hloc.length : Int) - 1 - i).toNat) = hloc.length - 1 - i by omega]
        have : hloc.length - 1 - i < hloc.length := by omega
        simp [locD, D.toL, List.getD_eq_getElem?_getD, this]
      simp only [hg, D.toStr, hw0]
      have hw1 : IntKind.i64.wrap ((hloc.length : Int) - 1 - ((hloc.length : Int) - 1 - i)) = (i : Int) := by rw [wrap64_of (by omega) (by omega)]; omega
      refine .ite (fun h => ?_) (fun h => ?_)
      · have h : hloc.reverse[i] = x.s := of_decide_eq_true h
        refine .ret (.inl ⟨?_, (T.mk 7 (i : Int) ⟨#[]⟩ [] f t).enc, ?_⟩)
        · simp only [localN, if_pos h]; omega
        · rw [hw1]
          simp only [localN, if_pos h]
          rfl
      · have h : ¬ hloc.reverse[i] = x.s := by simpa using h
        simp only [localN, if_neg h]
        have hw2 : D.int (IntKind.i64.wrap ((hloc.length : Int) - 1 - i - 1)) = .int ((hloc.length : Int) - 1 - ((i + 1 : Nat) : Int)) := by rw [wrap64_of (by omega) (by omega)]; congr 1; omega
        rw [hw2]
        match d, hd with
        | 0, hd => omega
        | d + 1, hd => exact value_loop hloc hl x f t d (i + 1) (by omega) (by omega)
    · have h : hloc.length ≤ i := by simp at h; omega
      rw [List.drop_of_length_le (by simpa using h)]
      rfl
theorem value_ev (hm : m.l.length ≤ 1000) (hM : MapOk m o) (loc : List ByteArray) (hl : loc.length ≤ 900000) (x : T) : EvP (fun n => F53 n x.enc (scopeD m loc 0 0) o) (PT m loc 0 (nameT m.l loc x.s x.f x.t) loc) := by
  refine .step (fun n => F53_eq n _ _ _) ?_
  have hw0 : D.int (IntKind.i64.wrap ((loc.length : Int) - 1)) = .int ((loc.length : Int) - 1 - ((0 : Nat) : Int)) := by rw [wrap64_of (by omega) (by omega)]; congr 1; omega
  simp only [sc7, locD_len, T.cell4, T.cell5]
  rw [hw0]
  have hloop := value_loop (m := m) (o := o) loc hl x x.f x.t _ 0 (Nat.le_refl _) (Nat.zero_le _)
  rw [List.drop_zero] at hloop
  refine .bind hloop.diag ?_
  unfold nameT
  rintro _ (⟨h1, d, rfl⟩ | ⟨h1, rfl⟩)
  · rw [if_pos h1]
    exact .ite (fun _ => .ret rfl) (fun h => absurd rfl h)
  rw [if_neg (by omega)]
  refine .ite (fun h => absurd h (by simp)) (fun _ => .ite (fun _ => ?_) (fun h => absurd rfl h))
  refine .bind (find_ev hm hM loc x [31, 32] (by decide) (by decide)) ?_
  rintro _ (⟨h2, rfl⟩ | ⟨h2, rfl⟩)
  · simp only [List.mem_cons, List.not_mem_nil, or_false] at h2
    simp only [List.getD_cons_zero, List.getD_cons_succ, D.toInt, List.drop_succ_cons, List.drop_zero]
    rcases h2 with h2 | h2
    · rw [if_pos h2]
      refine .bindE (r1 := (0, [(T.mk 8 (declN x.s 0 m.l) ⟨#[]⟩ [] x.f x.t).enc])) (.pos (by rw [h2]; rfl) (.ret _ _)) ?_
      exact .ret rfl
    · rw [if_neg (show ¬ declK x.s m.l = 31 by rw [h2]; decide), if_pos h2]
      refine .bindE (r1 := (0, [(T.mk 9 (declN x.s 0 m.l) ⟨#[]⟩ [] x.f x.t).enc])) (.neg (by rw [h2]; decide) (.ret _ _)) ?_
      exact .ret rfl
  · simp only [List.mem_cons, List.not_mem_nil, or_false, not_or] at h2
    rw [if_neg h2.1, if_neg h2.2]
    simp only [List.getD_cons_zero, List.getD_cons_succ, D.toInt, List.drop_succ_cons, List.drop_zero]
    refine .bindE (.neg (by decide) (.ret _ _)) ?_
    exact .ret ⟨_, loc, rfl, Nat.le_refl _, by omega, by decide⟩
end Go.Proofs.Ytkimdfpmblhapaa.Va

/- The program: parts one after another; terms. -/
set_option linter.unusedVariables false
set_option linter.unusedSimpArgs false
namespace Go.Proofs.Ytkimdfpmblhapaa.Va
variable {m : T} {o : D}
def seqT (spec : List ByteArray → T → Res T) (nx : List ByteArray → T → List ByteArray) (kn : List ByteArray) : List T → Res (List T)
  | [] => .ok []
  | x :: r => match spec kn x with
    | .bad a e => .bad a e
    | .ok x' => match seqT spec nx (nx kn x) r with
      | .ok r' => .ok (x' :: r')
      | .bad a e => .bad a e
def seqN (nx : List ByteArray → T → List ByteArray) (kn : List ByteArray) : List T → List ByteArray
  | [] => kn
  | x :: r => seqN nx (nx kn x) r
/-- What a function over parts comes to. -/
def PTs (m : T) (loc : List ByteArray) (sz : Nat) (res : Res (List T)) (loc' : List ByteArray) (r : R) : Prop := match res with
  | .ok l => r = (0, [.sl (encs l), scopeD m loc' 0 0])
  | .bad a e => ∃ d loc2, r = (0, [d, scopeD m loc2 a e]) ∧ loc.length ≤ loc2.length ∧ loc2.length ≤ loc.length + sz ∧ e ≠ 0
def LoopG (m : T) (loc : List ByteArray) (sz : Nat) (acc : List T) (res : Res (List T)) (loc' : List ByteArray) (r : R) : Prop := match res with
  | .ok l => r = (2, [.sl (encs (acc ++ l)), scopeD m loc' 0 0])
  | .bad a e => ∃ d loc2 j, r = (j, [d, scopeD m loc2 a e]) ∧ (j = 1 ∨ j = 2) ∧ loc.length ≤ loc2.length ∧ loc2.length ≤ loc.length + sz ∧ e ≠ 0
/-- The form of the loops over parts. -/
def PForm (l : List T) (Lf : Nat → Nat → List D → Option R) (G : Nat → D → D → Option R) : Prop :=
  ∀ (n k : Nat) (y0 y1 y2 : D), Lf n (k + 1) [y0, y1, y2] = if (decide (y1.toInt < (D.int ((D.sl (encs l)).toL.length)).toInt)) = true then (if (inR y1.toInt (D.sl (encs l)).toL.length) = true then (if (((y2.cell 9).toInt) != (0 : Int)) = true then (rt 1 [D.sl ([] : List D), y2]) else ((G n ((D.sl (encs l)).toL.getD y1.toInt.toNat (D.int 0)) y2).bind fun r1 => if (decide (y0.toL.length + ([(r1.2.getD 0 (D.int 0))] : List D).length ≤ 34359738368)) = true then (Lf n k [D.sl (y0.toL ++ ([(r1.2.getD 0 (D.int 0))] : List D)), D.int (IntKind.i64.wrap (y1.toInt + (1 : Int))), ((r1.2.drop 1).getD 0 (D.int 0))]) else none)) else none) else (rt 2 [y0, y2])
section
variable {l : List T} {Lf : Nat → Nat → List D → Option R} {G : Nat → D → D → Option R}
theorem err_loop (hL : PForm l Lf G) (y0 : D) (i : Nat) (loc : List ByteArray) (a e : Int) (he : e ≠ 0) : EvP2 (fun n k => Lf n k [y0, .int i, scopeD m loc a e]) (fun r => ∃ d j, r = (j, [d, scopeD m loc a e]) ∧ (j = 1 ∨ j = 2)) := by
  refine .step (fun n k => hL n k _ _ _) ?_
  simp only [toL_sl, encs_length, D.toInt, sc9]
  refine .ite (fun h => ?_) (fun h => .ret ⟨_, 2, rfl, .inr rfl⟩)
  have hlt : i < l.length := by simpa using h
  exact .ite (fun _ => .ite (fun _ => .ret ⟨_, 1, rfl, .inl rfl⟩) (fun h => absurd (by simpa using he) h)) (fun h => absurd (inR_nat hlt) h)
theorem gen_loop (hL : PForm l Lf G) (hl : l.length ≤ 400000) {spec : List ByteArray → T → Res T} {nx : List ByteArray → T → List ByteArray}
    (K : List ByteArray → Prop) (hK : ∀ kn x, K kn → K (nx kn x)) (hnx : ∀ kn x, kn.length ≤ (nx kn x).length ∧ (nx kn x).length ≤ kn.length + x.size)
    (hG : ∀ x ∈ l, ∀ kn : List ByteArray, K kn → kn.length + x.size ≤ 900000 → EvP (fun n => G n x.enc (scopeD m kn 0 0)) (PT m kn x.size (spec kn x) (nx kn x))) :
    ∀ (d i : Nat) (kn : List ByteArray) (acc : List T), K kn → l.length - i ≤ d → i ≤ l.length → kn.length + sizes (l.drop i) ≤ 900000 → acc.length ≤ i →
    EvP2 (fun n k => Lf n k [.sl (encs acc), .int i, scopeD m kn 0 0]) (LoopG m kn (sizes (l.drop i)) acc (seqT spec nx kn (l.drop i)) (seqN nx kn (l.drop i)))
  | d, i, kn, acc, hKn, hd, hi, hk, ha => by
    refine .step (fun n k => hL n k _ _ _) ?_
    simp only [toL_sl, encs_length, D.toInt, sc9]
    refine .ite (fun h => ?_) (fun h => ?_)
    rotate_left
    · have h : l.length ≤ i := by simpa using h
      rw [List.drop_of_length_le h]
      exact .ret (by show _ = _; rw [List.append_nil]; rfl)
    have hlt : i < l.length := by simpa using h
    have hsd := sizes_drop l hlt
    have hmem : l[i] ∈ l := List.getElem_mem hlt
    have hdrop := List.drop_eq_getElem_cons hlt
    refine .ite (fun _ => .ite (fun h => absurd h (by decide)) (fun _ => ?_)) (fun h => absurd (inR_nat hlt) h)
    rw [getD_encs _ hlt, W1 (by omega)]
    refine .bind (hG _ hmem kn hKn (by omega)) ?_
    intro r hr
    rw [hdrop]
    unfold seqT seqN
    have hsd2 : sizes (l[i] :: l.drop (i + 1)) = (l[i]).size + sizes (l.drop (i + 1)) := rfl
    cases hs : spec kn l[i] with
    | bad a e =>
      rw [hs] at hr
      obtain ⟨dd, loc2, rfl, h1, h2, h3⟩ := hr
      refine .ite (fun _ => ?_) (fun h => absurd (by simp [encs_length]; omega) h)
      refine (err_loop hL _ (i + 1) loc2 a e h3).mono ?_
      rintro _ ⟨d2, j, rfl, hj⟩
      exact ⟨d2, loc2, j, rfl, hj, h1, by omega, h3⟩
    | ok x' =>
      rw [hs] at hr
      have hr : r = (0, [x'.enc, scopeD m (nx kn l[i]) 0 0]) := hr
      subst hr
      have hn := hnx kn l[i]
      have happ : encs acc ++ [x'.enc] = encs (acc ++ [x']) := by rw [encs_append]; rfl
      simp only [List.getD_cons_zero, List.drop_succ_cons, List.drop_zero]
      rw [happ]
      refine .ite (fun _ => ?_) (fun h => absurd (by simp [encs_length]; omega) h)
      match d, hd with
      | 0, hd => omega
      | d + 1, hd =>
        refine (gen_loop hL hl K hK hnx hG d (i + 1) (nx kn l[i]) (acc ++ [x']) (hK _ _ hKn) (by omega) (by omega) (by omega) (by simp; omega)).mono fun r hr2 => ?_
        cases hr3 : seqT spec nx (nx kn l[i]) (l.drop (i + 1)) with
        | bad a e =>
          rw [hr3] at hr2
          obtain ⟨d2, loc2, j, h0, hj, h1, h2, h3⟩ := hr2
          exact ⟨d2, loc2, j, h0, hj, by omega, by omega, h3⟩
        | ok r' =>
          rw [hr3] at hr2
          show r = _
          rw [show r = _ from hr2, List.append_assoc]
          rfl
/-- The functions over parts. -/
theorem gen_fun (hL : PForm l Lf G) (hl : l.length ≤ 400000) {spec : List ByteArray → T → Res T} {nx : List ByteArray → T → List ByteArray}
    (K : List ByteArray → Prop) (hK : ∀ kn x, K kn → K (nx kn x)) (hnx : ∀ kn x, kn.length ≤ (nx kn x).length ∧ (nx kn x).length ≤ kn.length + x.size)
    (hG : ∀ x ∈ l, ∀ kn : List ByteArray, K kn → kn.length + x.size ≤ 900000 → EvP (fun n => G n x.enc (scopeD m kn 0 0)) (PT m kn x.size (spec kn x) (nx kn x)))
    (kn : List ByteArray) (hKn : K kn) (hk : kn.length + sizes l ≤ 900000) :
    EvP (fun n => (Lf n n [.sl [], .int 0, scopeD m kn 0 0]).bind fun r1 => if r1.1 = 1 then (rt 0 [(r1.2.getD 0 (D.int 0)), (r1.2.getD 1 (D.int 0))]) else (if r1.1 = 2 then (rt 0 [(r1.2.getD 0 (D.int 0)), (r1.2.getD 1 (D.int 0))]) else none)) (PTs m kn (sizes l) (seqT spec nx kn l) (seqN nx kn l)) := by
  have hloop := gen_loop hL hl K hK hnx hG _ 0 kn [] hKn (Nat.le_refl _) (Nat.zero_le _) (by simpa using hk) (Nat.zero_le _)
  rw [List.drop_zero] at hloop
  refine .bind hloop.diag ?_
  intro r hr
  cases hs : seqT spec nx kn l with
  | bad a e =>
    rw [hs] at hr
    obtain ⟨d2, loc2, j, rfl, hj, h1, h2, h3⟩ := hr
    refine .ite (fun _ => .ret ⟨d2, loc2, rfl, h1, h2, h3⟩) (fun h4 => .ite (fun _ => .ret ⟨d2, loc2, rfl, h1, h2, h3⟩) (fun h5 => ?_))
    rcases hj with hj | hj
    · exact absurd hj h4
    · exact absurd hj h5
  | ok l' =>
    rw [hs] at hr
    have hr : r = (2, [.sl (encs l'), scopeD m (seqN nx kn l) 0 0]) := hr
    subst hr
    exact .ite (fun h => absurd h (by simp)) (fun _ => .ite (fun _ => .ret rfl) (fun h => absurd rfl h))
theorem gen_err (hL : PForm l Lf G) (loc : List ByteArray) (a e : Int) (he : e ≠ 0) :
    EvP (fun n => (Lf n n [.sl [], .int 0, scopeD m loc a e]).bind fun r1 => if r1.1 = 1 then (rt 0 [(r1.2.getD 0 (D.int 0)), (r1.2.getD 1 (D.int 0))]) else (if r1.1 = 2 then (rt 0 [(r1.2.getD 0 (D.int 0)), (r1.2.getD 1 (D.int 0))]) else none)) (fun r => ∃ d, r = (0, [d, scopeD m loc a e])) := by
  refine .bind (err_loop hL _ 0 loc a e he).diag ?_
  rintro _ ⟨d, j, rfl, hj⟩
  refine .ite (fun _ => .ret ⟨d, rfl⟩) (fun h4 => .ite (fun _ => .ret ⟨d, rfl⟩) (fun h5 => ?_))
  rcases hj with hj | hj
  · exact absurd hj h4
  · exact absurd hj h5
end
theorem form_b (l : List T) : PForm l (fun n k => L18b_3 n (.sl (encs l)) (D.int ((D.sl (encs l)).toL.length)) o k) (fun n x y => F34 n x y o) := fun n k y0 y1 y2 => L18b_3_s n k _ _ _ _ _ _
theorem form_c (l : List T) : PForm l (fun n k => L18c_3 n (.sl (encs l)) (D.int ((D.sl (encs l)).toL.length)) o k) (fun n x y => F55 n x y o) := fun n k y0 y1 y2 => L18c_3_s n k _ _ _ _ _ _
theorem form_d (l : List T) (x3 x4 x5 : D) : PForm l (fun n k => L18d_3 n (.sl (encs l)) (D.int ((D.sl (encs l)).toL.length)) o x3 x4 x5 k) (fun n x y => F69 n x x3 y o x4 x5) := fun n k y0 y1 y2 => L18d_3_s n k _ _ _ _ _ _ _ _ _
theorem form_0 (l : List T) : PForm l (fun n k => L18_3 n (.sl (encs l)) (D.int ((D.sl (encs l)).toL.length)) o k) (fun n x y => F19 n x y o) := fun n k y0 y1 y2 => L18_3_s n k _ _ _ _ _ _
def keepN (kn : List ByteArray) (_ : T) : List ByteArray := kn
theorem seqN_keep (kn : List ByteArray) : ∀ l : List T, seqN keepN kn l = kn
  | [] => rfl
  | x :: r => seqN_keep kn r
theorem anyL_seq (ds : List T) (loc : List ByteArray) (k : Int) (s : ByteArray) (h1 : k ≠ 25) (h2 : k ≠ 29) (kn : List ByteArray) : ∀ (l : List T) (i : Nat), anyL ds loc k s kn i l = seqT (anyT ds) keepN kn l
  | [], i => by unfold anyL seqT; rfl
  | x :: r, i => by
    unfold anyL seqT
    rw [if_neg (fun h => h1 h.1), if_neg h2, anyL_seq ds loc k s h1 h2 kn r (i + 1)]
    rfl
/-- A term with good parts. -/
def GX (x : T) : Prop := x.k ≠ 25 ∧ x.k ≠ 29 ∧ GEs x.l
theorem GE.x {x : T} (h : GE x) : GX x := by
  have := GE_k h
  refine ⟨by omega, by omega, ?_⟩
  cases x
  exact h.2.2.2
theorem PT.mono {loc loc' : List ByteArray} {s1 s2 : Nat} {res : Res T} {r : R} (h : s1 ≤ s2) (hp : PT m loc s1 res loc' r) : PT m loc s2 res loc' r := by
  cases res with
  | ok x => exact hp
  | bad a e =>
    obtain ⟨d, loc2, h1, h2, h3, h4⟩ := hp
    exact ⟨d, loc2, h1, h2, by omega, h4⟩
theorem term_ev (hm : m.l.length ≤ 1000) (hM : MapOk m o) : ∀ (b : Nat) (x : T) (loc : List ByteArray), x.size ≤ b → x.size ≤ 400000 → loc.length + x.size ≤ 900000 → GX x →
    EvP (fun n => F34 n x.enc (scopeD m loc 0 0) o) (PT m loc (sizes x.l) (anyT m.l loc x) loc)
  | 0, x, loc, hb, hx, hl, hg => by have := size_eq x; omega
  | b + 1, x, loc, hb, hx, hl, hg => by
    have hsz := size_eq x
    have hlen := length_le_sizes x.l
    refine .step (fun n => F34_eq n _ _ _) ?_
    rw [anyT_eq]
    simp only [T.cell0, T.cell1, T.cell2, T.cell3, T.cell4, T.cell5, D.toInt, sc9]
    refine .ite (fun h => absurd h (by decide)) (fun _ => ?_)
    refine .ite (fun h => ?_) (fun h => ?_)
    · rw [if_pos (show x.k = 19 by simpa using h)]
      refine .bind (value_ev hm hM loc (by omega) x) ?_
      intro r hr
      cases hn : nameT m.l loc x.s x.f x.t with
      | bad a e =>
        rw [hn] at hr
        obtain ⟨d, loc2, rfl, h1, h2, h3⟩ := hr
        exact .ret ⟨d, loc2, rfl, h1, by omega, h3⟩
      | ok y =>
        rw [hn] at hr
        have hr : r = (0, [y.enc, scopeD m loc 0 0]) := hr
        subst hr
        exact .ret rfl
    rw [if_neg (show ¬ x.k = 19 by simpa using h)]
    have parts : ∀ (c0 c1 c2 c4 c5 : D) (N : Int) (s : ByteArray), c0 = .int x.k → c1 = .int N → c2 = .str s → c4 = .int x.f → c5 = .int x.t → EvP (fun n => (F18b n (.sl (encs x.l)) (scopeD m loc 0 0) o).bind fun r7 => rt 0 [D.agg [c0, c1, c2, (r7.2.getD 0 (D.int 0)), c4, c5], ((r7.2.drop 1).getD 0 (D.int 0))])
        (PT m loc (sizes x.l) (match anyL m.l loc x.k x.s loc 0 x.l with | .ok l' => .ok (.mk x.k N s l' x.f x.t) | .bad a e => .bad a e) loc) := by
      rintro _ _ _ _ _ N s rfl rfl rfl rfl rfl
      refine .bind (Q1 := PTs m loc (sizes x.l) (seqT (anyT m.l) keepN loc x.l) loc) ?_ ?_
      · have := gen_fun (form_b (o := o) x.l) (by omega) (m := m) (spec := anyT m.l) (nx := keepN) (fun _ => True) (fun _ _ _ => trivial) (fun kn y => ⟨Nat.le_refl _, Nat.le_add_right _ _⟩) (fun y hy kn _ hk => by
          have := size_mem hy
          exact (term_ev hm hM b y kn (by omega) (by omega) hk (GE.x (GEs_mem hg.2.2 y hy))).mono fun r => PT.mono (by have := size_eq y; omega)) loc trivial (by omega)
        rw [seqN_keep] at this
        exact .step (fun n => F18b_eq n _ _ _) this
      · intro r hr
        rw [anyL_seq m.l loc x.k x.s hg.1 hg.2.1]
        cases hs : seqT (anyT m.l) keepN loc x.l with
        | bad a e =>
          rw [hs] at hr
          obtain ⟨d, loc2, rfl, h1, h2, h3⟩ := hr
          exact .ret ⟨_, loc2, rfl, h1, by omega, h3⟩
        | ok l' =>
          rw [hs] at hr
          have hr : r = (0, [.sl (encs l'), scopeD m loc 0 0]) := hr
          subst hr
          exact .ret rfl
    have parts_bad : ∀ (c0 c1 c2 c4 c5 : D), EvP (fun n => (F18b n (.sl (encs x.l)) (scopeD m loc x.f 8) o).bind fun r7 => rt 0 [D.agg [c0, c1, c2, (r7.2.getD 0 (D.int 0)), c4, c5], ((r7.2.drop 1).getD 0 (D.int 0))])
        (PT m loc (sizes x.l) (.bad x.f 8) loc) := by
      intro c0 c1 c2 c4 c5
      refine .bind (.step (fun n => F18b_eq n _ _ _) (gen_err (form_b (o := o) x.l) loc x.f 8 (by decide))) ?_
      rintro _ ⟨d, rfl⟩
      exact .ret ⟨_, loc, rfl, Nat.le_refl _, by omega, by decide⟩
    have kind : ∀ (c : Prop) [Decidable c], (x.k = 16 ∨ x.k = 15 ∨ x.k = 4 ↔ c) → EvP (fun _ => if (x.k == (16 : Int)) = false then (if (x.k == (15 : Int)) = false then (rt 0 [D.bool (x.k == (4 : Int))]) else (rt 0 [D.bool true])) else (rt 0 [D.bool true])) (fun r => r = (0, [.bool (decide c)])) := by
      intro c _ hc
      refine .ite (fun h1 => .ite (fun h2 => .ret ?_) (fun h2 => .ret ?_)) (fun h1 => .ret ?_)
      · have h1 : x.k ≠ 16 := by simpa using h1
        have h2 : x.k ≠ 15 := by simpa using h2
        rw [show decide c = (x.k == 4) by rw [Bool.eq_iff_iff]; simp [← hc, h1, h2]]
      · have h2 : x.k = 15 := by simpa using h2
        rw [show decide c = true by simp [← hc, h2]]
      · have h1 : x.k = 16 := by simpa using h1
        rw [show decide c = true by simp [← hc, h1]]
    have name : EvP (fun _ => if (x.k != (13 : Int)) = true then (rt 0 [D.bool (x.k != (17 : Int))]) else (rt 0 [D.bool false])) (fun r => r = (0, [.bool (decide (¬ (x.k = 13 ∨ x.k = 17)))])) := by
      refine .ite (fun h => .ret ?_) (fun h => .ret ?_)
      · have h : x.k ≠ 13 := by simpa using h
        rw [show decide (¬ (x.k = 13 ∨ x.k = 17)) = (x.k != 17) by rw [Bool.eq_iff_iff]; simp [h]]
      · have h : x.k = 13 := by simpa using h
        rw [show decide (¬ (x.k = 13 ∨ x.k = 17)) = false by simp [h]]
    have number : ∀ (b : Bool) (v : D) (N : Int), v = .int N → EvP (fun _ => if b = true then (rt 0 [D.agg [.int x.k, v, .str x.s, .sl (encs x.l), .int x.f, .int x.t]]) else (rt 0 [x.enc])) (fun r => r = (0, [.agg [.int x.k, .int (if b = true then N else x.n), .str x.s, .sl (encs x.l), .int x.f, .int x.t]])) := by
      rintro b _ N rfl
      refine .ite (fun h => .ret ?_) (fun h => .ret ?_)
      · rw [if_pos h]
      · rw [if_neg h, T.enc_eq]
    have noname : ∀ (b : Bool) (N : Int), EvP (fun _ => if b = true then (rt 0 [D.agg [.int x.k, .int N, D.str ⟨#[]⟩, .sl (encs x.l), .int x.f, .int x.t]]) else (rt 0 [D.agg [.int x.k, .int N, D.str x.s, .sl (encs x.l), .int x.f, .int x.t]])) (fun r => r = (0, [.agg [.int x.k, .int N, .str (if b = true then ⟨#[]⟩ else x.s), .sl (encs x.l), .int x.f, .int x.t]])) := by
      intro b N
      refine .ite (fun h => .ret ?_) (fun h => .ret ?_)
      · rw [if_pos h]
      · rw [if_neg h]
    have tail : ∀ (N : Int) (st : D) (Q : R → Prop), EvP (fun n => (F18b n (.sl (encs x.l)) st o).bind fun r7 => rt 0 [D.agg [.int x.k, .int (if x.k = 16 ∨ x.k = 15 ∨ x.k = 4 then N else x.n), .str (if x.k = 13 ∨ x.k = 17 then x.s else ⟨#[]⟩), (r7.2.getD 0 (D.int 0)), .int x.f, .int x.t], ((r7.2.drop 1).getD 0 (D.int 0))]) Q →
        EvP (fun n => (if (x.k == (16 : Int)) = false then (if (x.k == (15 : Int)) = false then (rt 0 [D.bool (x.k == (4 : Int))]) else (rt 0 [D.bool true])) else (rt 0 [D.bool true]) : Option R).bind fun r3 => (if ((r3.2.getD 0 (D.int 0)).toBool) = true then (rt 0 [D.agg [.int x.k, .int N, .str x.s, .sl (encs x.l), .int x.f, .int x.t]]) else (rt 0 [x.enc]) : Option R).bind fun r4 => (if (x.k != (13 : Int)) = true then (rt 0 [D.bool (x.k != (17 : Int))]) else (rt 0 [D.bool false]) : Option R).bind fun r5 => (if ((r5.2.getD 0 (D.int 0)).toBool) = true then (rt 0 [D.agg [(r4.2.getD 0 (D.int 0)).cell 0, (r4.2.getD 0 (D.int 0)).cell 1, D.str ⟨#[]⟩, (r4.2.getD 0 (D.int 0)).cell 3, (r4.2.getD 0 (D.int 0)).cell 4, (r4.2.getD 0 (D.int 0)).cell 5]]) else (rt 0 [(r4.2.getD 0 (D.int 0))]) : Option R).bind fun r6 => (F18b n (.sl (encs x.l)) st o).bind fun r7 => rt 0 [D.agg [(r6.2.getD 0 (D.int 0)).cell 0, (r6.2.getD 0 (D.int 0)).cell 1, (r6.2.getD 0 (D.int 0)).cell 2, (r7.2.getD 0 (D.int 0)), (r6.2.getD 0 (D.int 0)).cell 4, (r6.2.getD 0 (D.int 0)).cell 5], ((r7.2.drop 1).getD 0 (D.int 0))]) Q := by
      intro N st Q h
      refine .bind (kind _ Iff.rfl) ?_
      rintro _ rfl
      simp only [List.getD_cons_zero, D.toBool]
      refine .bind (number _ _ N rfl) ?_
      rintro _ rfl
      refine .bind name ?_
      rintro _ rfl
      simp only [List.getD_cons_zero, D.toBool, cell_agg, List.getD_cons_succ]
      refine .bind (noname _ _) ?_
      rintro _ rfl
      simp only [List.getD_cons_zero, cell_agg, List.getD_cons_succ, decide_eq_true_eq]
      have e1 : (if ¬(x.k = 13 ∨ x.k = 17) then (⟨#[]⟩ : ByteArray) else x.s) = (if x.k = 13 ∨ x.k = 17 then x.s else ⟨#[]⟩) := by
        by_cases hc : x.k = 13 ∨ x.k = 17
        · rw [if_neg (fun h => h hc), if_pos hc]
        · rw [if_pos hc, if_neg hc]
      rw [e1]
      exact h
    refine .ite (fun h16 => ?_) (fun h16 => ?_)
    · have h16 : x.k = 16 := by simpa using h16
      refine .bind (find_ev hm hM loc x [33] (by decide) (by decide)) ?_
      rintro _ (⟨h1, rfl⟩ | ⟨h1, rfl⟩)
      · have h1 : declK x.s m.l = 33 := by simpa using h1
        rw [if_neg (show ¬ ((x.k = 16 ∧ declK x.s m.l ≠ 33) ∨ ((x.k = 15 ∨ x.k = 4) ∧ declK x.s m.l ≠ 30)) by rw [h16, h1]; decide)]
        exact tail (declN x.s 0 m.l) _ _ (parts _ _ _ _ _ _ _ rfl rfl rfl rfl rfl)
      · have h1 : ¬ declK x.s m.l = 33 := by simpa using h1
        rw [if_pos (show ((x.k = 16 ∧ declK x.s m.l ≠ 33) ∨ ((x.k = 15 ∨ x.k = 4) ∧ declK x.s m.l ≠ 30)) from .inl ⟨h16, h1⟩)]
        exact tail 0 _ _ (parts_bad _ _ _ _ _)
    have h16 : ¬ x.k = 16 := by simpa using h16
    refine .bind (Q1 := fun r => r = (0, [.bool (decide (x.k = 15 ∨ x.k = 4))])) ?_ ?_
    · refine .ite (fun h => .ret ?_) (fun h => .ret ?_)
      · have h : x.k = 15 := by simpa using h
        rw [show decide (x.k = 15 ∨ x.k = 4) = (x.k == 15) by rw [Bool.eq_iff_iff]; simp [h]]
      · have h : x.k ≠ 15 := by simpa using h
        rw [show decide (x.k = 15 ∨ x.k = 4) = (x.k == 4) by rw [Bool.eq_iff_iff]; simp [h]]
    rintro _ rfl
    simp only [List.getD_cons_zero, D.toBool, decide_eq_true_eq]
    refine .ite (fun h15 => ?_) (fun h15 => ?_)
    · refine .bind (find_ev hm hM loc x [30] (by decide) (by decide)) ?_
      rintro _ (⟨h1, rfl⟩ | ⟨h1, rfl⟩)
      · have h1 : declK x.s m.l = 30 := by simpa using h1
        rw [if_neg (show ¬ ((x.k = 16 ∧ declK x.s m.l ≠ 33) ∨ ((x.k = 15 ∨ x.k = 4) ∧ declK x.s m.l ≠ 30)) from fun hh => hh.elim (fun h2 => h16 h2.1) (fun h2 => h2.2 h1))]
        exact tail (declN x.s 0 m.l) _ _ (parts _ _ _ _ _ _ _ rfl rfl rfl rfl rfl)
      · have h1 : ¬ declK x.s m.l = 30 := by simpa using h1
        rw [if_pos (show ((x.k = 16 ∧ declK x.s m.l ≠ 33) ∨ ((x.k = 15 ∨ x.k = 4) ∧ declK x.s m.l ≠ 30)) from .inr ⟨h15, h1⟩)]
        exact tail 0 _ _ (parts_bad _ _ _ _ _)
    · rw [if_neg (show ¬ ((x.k = 16 ∧ declK x.s m.l ≠ 33) ∨ ((x.k = 15 ∨ x.k = 4) ∧ declK x.s m.l ≠ 30)) from fun hh => hh.elim (fun h2 => h16 h2.1) (fun h2 => h15 h2.1))]
      have hn : ¬ (x.k = 16 ∨ x.k = 15 ∨ x.k = 4) := fun hh => hh.elim h16 h15
      refine tail 0 _ _ ?_
      rw [if_neg hn, if_neg hn]
      exact parts _ _ _ _ _ _ _ rfl rfl rfl rfl rfl
end Go.Proofs.Ytkimdfpmblhapaa.Va

/- The program: blocks and statements. -/
set_option linter.unusedVariables false
set_option linter.unusedSimpArgs false
namespace Go.Proofs.Ytkimdfpmblhapaa.Va
variable {m : T} {o : D}
theorem sc_take (loc : List ByteArray) (a e : Int) (n : Nat) : D.agg [(scopeD m loc a e).cell 0, (scopeD m loc a e).cell 1, (scopeD m loc a e).cell 2, (scopeD m loc a e).cell 3, (scopeD m loc a e).cell 4, (scopeD m loc a e).cell 5, (scopeD m loc a e).cell 6, D.sl ((((scopeD m loc a e).cell 7).toL).take (n : Int).toNat), (scopeD m loc a e).cell 8, (scopeD m loc a e).cell 9] = scopeD m (loc.take n) a e := by
  rw [show ((n : Int).toNat) = n by omega]
  simp only [sc7, scopeD, locD, D.toL, cell_agg, List.map_take, List.getD_cons_zero, List.getD_cons_succ]
theorem sc_push (loc : List ByteArray) (a e : Int) (s : ByteArray) : D.agg [(scopeD m loc a e).cell 0, (scopeD m loc a e).cell 1, (scopeD m loc a e).cell 2, (scopeD m loc a e).cell 3, (scopeD m loc a e).cell 4, (scopeD m loc a e).cell 5, (scopeD m loc a e).cell 6, D.sl (((scopeD m loc a e).cell 7).toL ++ ([.str s] : List D)), (scopeD m loc a e).cell 8, (scopeD m loc a e).cell 9] = scopeD m (loc ++ [s]) a e := by
  simp only [sc7, scopeD, locD, D.toL, cell_agg, List.map_append, List.map_cons, List.map_nil, List.getD_cons_zero, List.getD_cons_succ]
def withL (x : T) : Res (List T) → Res T
  | .ok l' => .ok (.mk x.k x.n ⟨#[]⟩ l' x.f x.t)
  | .bad a e => .bad a e
theorem anyT_stmt (ds : List T) (loc : List ByteArray) (x : T) (h : 20 ≤ x.k) : anyT ds loc x = withL x (anyL ds loc x.k x.s loc 0 x.l) := by
  rw [anyT_eq, if_neg (show ¬ x.k = 19 by omega), if_neg (show ¬ ((x.k = 16 ∧ declK x.s ds ≠ 33) ∨ ((x.k = 15 ∨ x.k = 4) ∧ declK x.s ds ≠ 30)) by omega), if_neg (show ¬ (x.k = 16 ∨ x.k = 15 ∨ x.k = 4) by omega), if_neg (show ¬ (x.k = 13 ∨ x.k = 17) by omega)]
  cases anyL ds loc x.k x.s loc 0 x.l <;> rfl
/-- The locals are cut back. -/
theorem cut_ev (x : T) (loc s : List ByteArray) (res : Res (List T)) (r1 : R) (h : PTs m loc (sizes x.l) res (loc ++ s) r1) :
    EvP (fun _ => if (decide (0 ≤ ((((scopeD m loc 0 0).cell 7).toL).length : Int)) && decide (((((scopeD m loc 0 0).cell 7).toL).length : Int) ≤ (((((r1.2.drop 1).getD 0 (D.int 0)).cell 7).toL).length : Int))) = true then (rt 0 [D.agg [(x.enc.cell 0), (x.enc.cell 1), D.str (⟨#[]⟩ : ByteArray), (r1.2.getD 0 (D.int 0)), (x.enc.cell 4), (x.enc.cell 5)], D.agg [(((r1.2.drop 1).getD 0 (D.int 0)).cell 0), (((r1.2.drop 1).getD 0 (D.int 0)).cell 1), (((r1.2.drop 1).getD 0 (D.int 0)).cell 2), (((r1.2.drop 1).getD 0 (D.int 0)).cell 3), (((r1.2.drop 1).getD 0 (D.int 0)).cell 4), (((r1.2.drop 1).getD 0 (D.int 0)).cell 5), (((r1.2.drop 1).getD 0 (D.int 0)).cell 6), D.sl (((((r1.2.drop 1).getD 0 (D.int 0)).cell 7).toL).take ((((scopeD m loc 0 0).cell 7).toL).length : Int).toNat), (((r1.2.drop 1).getD 0 (D.int 0)).cell 8), (((r1.2.drop 1).getD 0 (D.int 0)).cell 9)]]) else none)
      (PT m loc (sizes x.l) (withL x res) loc) := by
  simp only [sc7 (loc := loc), locD_len]
  cases res with
  | bad a e =>
    obtain ⟨d, loc2, rfl, h1, h2, h3⟩ := h
    simp only [List.drop_succ_cons, List.drop_zero, List.getD_cons_zero]
    rw [sc_take, sc7, locD_len]
    exact .ite (fun _ => .ret ⟨_, loc2.take loc.length, rfl, by simp; omega, by simp; omega, h3⟩) (fun h => absurd (by simp; omega) h)
  | ok l' =>
    have h : r1 = (0, [.sl (encs l'), scopeD m (loc ++ s) 0 0]) := h
    subst h
    simp only [List.drop_succ_cons, List.drop_zero, List.getD_cons_zero]
    rw [sc_take, sc7, locD_len]
    refine .ite (fun _ => .ret ?_) (fun h => absurd (by simp; omega) h)
    rw [List.take_left]
    rw [T.cell0, T.cell1, T.cell4, T.cell5]
    rfl
theorem seqN_pre {nx : List ByteArray → T → List ByteArray} (h : ∀ kn x, ∃ s, nx kn x = kn ++ s) : ∀ (l : List T) (kn : List ByteArray), ∃ s, seqN nx kn l = kn ++ s
  | [], kn => ⟨[], by simp [seqN]⟩
  | x :: r, kn => by
    obtain ⟨s, hs⟩ := h kn x
    obtain ⟨s2, hs2⟩ := seqN_pre h r (nx kn x)
    exact ⟨s ++ s2, by unfold seqN; rw [hs2, hs, List.append_assoc]⟩
theorem moreT_pre (kn : List ByteArray) (x : T) : ∃ s, moreT kn x = kn ++ s := by
  unfold moreT
  split
  · exact ⟨_, rfl⟩
  · exact ⟨[], by simp⟩
theorem size_pos (x : T) : 1 ≤ x.size := by have := size_eq x; omega
theorem moreT_nx (kn : List ByteArray) (x : T) : kn.length ≤ (moreT kn x).length ∧ (moreT kn x).length ≤ kn.length + x.size := by
  have := size_pos x
  unfold moreT
  split <;> simp <;> omega
theorem anyL_block (ds : List T) (loc : List ByteArray) (s : ByteArray) : ∀ (l : List T) (kn : List ByteArray) (i : Nat), anyL ds loc 29 s kn i l = seqT (anyT ds) moreT kn l
  | [], kn, i => by unfold anyL seqT; rfl
  | x :: r, kn, i => by
    unfold anyL seqT
    rw [if_neg (fun h => absurd h.1 (by decide)), if_pos rfl, anyL_block ds loc s r _ (i + 1)]
    rfl
/-- Of 'for': the parts and what is known in them. -/
def inFor (s : ByteArray) (kn : List ByteArray) (x : T) : List ByteArray := if x.k = 29 then kn ++ [s] else kn
theorem inFor_pre (s : ByteArray) (kn : List ByteArray) (x : T) : ∃ q, inFor s kn x = kn ++ q := by
  unfold inFor
  split
  · exact ⟨_, rfl⟩
  · exact ⟨[], by simp⟩
theorem inFor_nx (s : ByteArray) (kn : List ByteArray) (x : T) : kn.length ≤ (inFor s kn x).length ∧ (inFor s kn x).length ≤ kn.length + x.size := by
  have := size_pos x
  unfold inFor
  split <;> simp <;> omega
theorem anyL_for (ds : List T) (loc : List ByteArray) (s : ByteArray) (a b c : T) (ha : GE a) (hb : GE b) (hc : c.k = 29) : anyL ds loc 25 s loc 0 [a, b, c] = seqT (fun kn x => anyT ds (inFor s kn x) x) (inFor s) loc [a, b, c] := by
  have h1 := (GE_k ha).2
  have h2 := (GE_k hb).2
  have ea : ∀ kn, inFor s kn a = kn := fun kn => if_neg (by omega)
  have eb : ∀ kn, inFor s kn b = kn := fun kn => if_neg (by omega)
  have ec : ∀ kn, inFor s kn c = kn ++ [s] := fun kn => if_pos hc
  simp only [anyL, seqT, ea, eb, ec]
  rfl
def BlockP (m : T) (o : D) (y : T) : Prop := ∀ loc : List ByteArray, loc.length + sizes y.l ≤ 900000 → EvP (fun n => F35 n y.enc (scopeD m loc 0 0) o) (PT m loc (sizes y.l) (anyT m.l loc y) loc)
def StmtP (m : T) (o : D) (y : T) : Prop := ∀ loc : List ByteArray, loc.length + y.size ≤ 900000 → EvP (fun n => F55 n y.enc (scopeD m loc 0 0) o) (PT m loc y.size (anyT m.l loc y) (moreT loc y))
theorem block_of (x : T) (hk : x.k = 29) (hx : x.size ≤ 400000) (h : ∀ y ∈ x.l, StmtP m o y) : BlockP m o x := by
  intro loc hl
  have hsz := size_eq x
  have hlen := length_le_sizes x.l
  refine .step (fun n => F35_eq n _ _ _) ?_
  rw [anyT_stmt _ _ _ (by omega), hk, anyL_block]
  refine .bind (Q1 := PTs m loc (sizes x.l) (seqT (anyT m.l) moreT loc x.l) (seqN moreT loc x.l)) ?_ ?_
  · rw [T.cell3]
    exact .step (fun n => F18c_eq n _ _ _) (gen_fun (form_c (o := o) x.l) (by omega) (fun _ => True) (fun _ _ _ => trivial) moreT_nx (fun y hy kn _ hk => h y hy kn hk) loc trivial (by omega))
  · intro r hr
    obtain ⟨s, hs⟩ := seqN_pre moreT_pre x.l loc
    rw [hs] at hr
    exact cut_ev x loc s _ r hr
/-- A part of 'if', 'while', 'for'. -/
theorem nested_of (x : T) (hk : x.k = 23 ∨ x.k = 24 ∨ x.k = 25) (hx : x.size ≤ 400000) {spec : List ByteArray → T → Res T} {nx : List ByteArray → T → List ByteArray} (hnx : ∀ kn x, kn.length ≤ (nx kn x).length ∧ (nx kn x).length ≤ kn.length + x.size) (hpre : ∀ kn x, ∃ s, nx kn x = kn ++ s) (loc : List ByteArray) (hl : loc.length + x.size ≤ 900000)
    (hs : anyL m.l loc x.k x.s loc 0 x.l = seqT spec nx loc x.l)
    (h : ∀ y ∈ x.l, ∀ kn : List ByteArray, kn.length + y.size ≤ 900000 → EvP (fun n => F69 n y.enc (D.int (0 : Int)) (scopeD m kn 0 0) o (D.agg [(x.enc.cell 0), (x.enc.cell 1), D.str (⟨#[]⟩ : ByteArray), (x.enc.cell 3), (x.enc.cell 4), (x.enc.cell 5)]) (x.enc.cell 2)) (PT m kn y.size (spec kn y) (nx kn y))) :
    EvP (fun n => F63 n x.enc (scopeD m loc 0 0) o) (PT m loc (sizes x.l) (anyT m.l loc x) loc) := by
  have hsz := size_eq x
  have hlen := length_le_sizes x.l
  refine .step (fun n => F63_eq n _ _ _) ?_
  rw [anyT_stmt _ _ _ (by omega), hs]
  refine .bind (Q1 := PTs m loc (sizes x.l) (seqT spec nx loc x.l) (seqN nx loc x.l)) ?_ ?_
  · refine .step (fun n => F18d_eq n _ _ _ _ _ _) ?_
    rw [T.cell3]
    have := gen_fun (form_d (o := o) x.l (D.int (0 : Int)) (D.agg [(x.enc.cell 0), (x.enc.cell 1), D.str (⟨#[]⟩ : ByteArray), (x.enc.cell 3), (x.enc.cell 4), (x.enc.cell 5)]) (x.enc.cell 2)) (by omega) (fun _ => True) (fun _ _ _ => trivial) hnx (fun y hy kn _ hk => h y hy kn hk) loc trivial (by omega)
    rw [T.cell3] at this
    exact this
  · intro r hr
    obtain ⟨s, hs⟩ := seqN_pre hpre x.l loc
    rw [hs] at hr
    exact cut_ev x loc s _ r hr
/-- What follows a part is handed on. -/
theorem PT.out {f : Nat → Option R} {loc loc' : List ByteArray} {sz : Nat} {res : Res T} (h : EvP f (PT m loc sz res loc')) : EvP (fun n => (f n).bind fun r1 => rt 0 [(r1.2.getD 0 (D.int 0)), ((r1.2.drop 1).getD 0 (D.int 0))]) (PT m loc sz res loc') := by
  refine .bind h ?_
  intro r hr
  cases res with
  | ok x =>
    have hr : r = _ := hr
    subst hr
    exact .ret rfl
  | bad a e =>
    obtain ⟨d, loc2, rfl, h1⟩ := hr
    exact .ret ⟨d, loc2, rfl, h1⟩
theorem GEs_of : ∀ {l : List T}, (∀ x ∈ l, GE x) → GEs l
  | [], _ => trivial
  | x :: r, h => ⟨h x (List.mem_cons_self ..), GEs_of fun y hy => h y (List.mem_cons_of_mem _ hy)⟩
theorem stmt_all (hm : m.l.length ≤ 1000) (hM : MapOk m o) : ∀ (b : Nat) (x : T), x.size ≤ b → x.size ≤ 400000 → GS x → (x.k = 29 → BlockP m o x) ∧ StmtP m o x
  | 0, x, hb, hx, hg => by have := size_eq x; omega
  | b + 1, x, hb, hx, hg => by
    have hsz := size_eq x
    have kids : ∀ y ∈ x.l, GS y → (y.k = 29 → BlockP m o y) ∧ StmtP m o y := fun y hy h => by
      have := size_mem hy
      exact stmt_all hm hM b y (by omega) (by omega) h
    have term : ∀ y, GX y → y.size ≤ 400000 → ∀ kn : List ByteArray, kn.length + y.size ≤ 900000 → EvP (fun n => F34 n y.enc (scopeD m kn 0 0) o) (PT m kn (sizes y.l) (anyT m.l kn y) kn) := fun y h h2 kn hk => term_ev hm hM _ y kn (Nat.le_refl _) h2 hk h
    have hB : x.k = 29 → BlockP m o x := fun hk => by
      refine block_of x hk hx fun y hy => (kids y hy ?_).2
      cases hg with
      | block n f t s l h => exact h y hy
      | leaf k n f t s l hk2 g => exfalso; have hk : k = 29 := hk; omega
      | ctl k n f t s l hk2 g h2 => exfalso; have hk : k = 29 := hk; omega
      | for_ n f t s a b c h1 h2 h3 h4 => exact absurd (show (25 : Int) = 29 from hk) (by decide)
    refine ⟨hB, fun loc hl => ?_⟩
    refine .step (fun n => F55_eq n _ _ _) ?_
    simp only [T.cell0, T.cell2, D.toInt]
    refine .ite (fun h => ?_) (fun h => ?_)
    · have h : x.k = 29 := by simpa using h
      have hmo : moreT loc x = loc := if_neg (by omega)
      rw [hmo]
      exact (PT.out (hB h loc (by omega))).mono fun r => PT.mono (by omega)
    have hk29 : x.k ≠ 29 := by simpa using h
    refine .bind (Q1 := fun r => r = (0, [.bool (decide (x.k = 20 ∨ x.k = 21))])) ?_ ?_
    · refine .ite (fun h => .ret ?_) (fun h => .ret ?_)
      · have h : x.k = 20 := by simpa using h
        rw [show decide (x.k = 20 ∨ x.k = 21) = (x.k == 20) by rw [Bool.eq_iff_iff]; simp [h]]
      · have h : x.k ≠ 20 := by simpa using h
        rw [show decide (x.k = 20 ∨ x.k = 21) = (x.k == 21) by rw [Bool.eq_iff_iff]; simp [h]]
    rintro _ rfl
    simp only [List.getD_cons_zero, D.toBool, decide_eq_true_eq]
    refine .ite (fun hv => ?_) (fun hv => ?_)
    · have hx2 : GX x := by
        refine ⟨by omega, by omega, ?_⟩
        cases hg with
        | block n f t s l h => exact absurd rfl hk29
        | leaf k n f t s l hk2 g => exact GEs_of g
        | ctl k n f t s l hk2 g h2 => exfalso; have hv : k = 20 ∨ k = 21 := hv; omega
        | for_ n f t s a b c h1 h2 h3 h4 => exact absurd (show (25 : Int) = 20 ∨ (25 : Int) = 21 from hv) (by decide)
      refine .bind (term x hx2 hx loc hl) ?_
      have hmo : moreT loc x = loc ++ [x.s] := if_pos hv
      rw [hmo]
      intro r hr
      cases hs : anyT m.l loc x with
      | bad a e =>
        rw [hs] at hr
        obtain ⟨d, loc2, rfl, h1, h2, h3⟩ := hr
        simp only [List.drop_succ_cons, List.drop_zero, List.getD_cons_zero]
        rw [sc_push, sc7, locD_len]
        exact .ite (fun _ => .ret ⟨_, _, rfl, by simp; omega, by simp; omega, h3⟩) (fun h => absurd (by simp; omega) h)
      | ok x' =>
        rw [hs] at hr
        have hr : r = (0, [x'.enc, scopeD m loc 0 0]) := hr
        subst hr
        simp only [List.drop_succ_cons, List.drop_zero, List.getD_cons_zero]
        rw [sc_push, sc7, locD_len]
        exact .ite (fun _ => .ret rfl) (fun h => absurd (by simp; omega) h)
    have hmo : moreT loc x = loc := if_neg hv
    rw [hmo]
    refine .bind (Q1 := fun r => r = (0, [.bool (decide (x.k = 23 ∨ x.k = 24 ∨ x.k = 25))])) ?_ ?_
    · refine .ite (fun h => .ret ?_) (fun h => ?_)
      · have h : x.k = 23 := by simpa using h
        rw [show decide (x.k = 23 ∨ x.k = 24 ∨ x.k = 25) = (x.k == 23) by rw [Bool.eq_iff_iff]; simp [h]]
      have h : x.k ≠ 23 := by simpa using h
      refine .bind (Q1 := fun r => r = (0, [.bool (decide (x.k = 23 ∨ x.k = 24 ∨ x.k = 25))])) ?_ ?_
      · refine .ite (fun h2 => .ret ?_) (fun h2 => .ret ?_)
        · have h2 : x.k = 24 := by simpa using h2
          rw [show decide (x.k = 23 ∨ x.k = 24 ∨ x.k = 25) = (x.k == 24) by rw [Bool.eq_iff_iff]; simp [h2]]
        · have h2 : x.k ≠ 24 := by simpa using h2
          rw [show decide (x.k = 23 ∨ x.k = 24 ∨ x.k = 25) = (x.k == 25) by rw [Bool.eq_iff_iff]; simp [h, h2]]
      rintro _ rfl
      exact .ret rfl
    rintro _ rfl
    simp only [List.getD_cons_zero, D.toBool, decide_eq_true_eq]
    refine .ite (fun hn => ?_) (fun hn => ?_)
    · have goal : EvP (fun n => F63 n x.enc (scopeD m loc 0 0) o) (PT m loc (sizes x.l) (anyT m.l loc x) loc) := by
        have part : ∀ y ∈ x.l, GE y → ∀ (kn : List ByteArray) (d1 d2 d3 : D), kn.length + y.size ≤ 900000 → EvP (fun n => F69 n y.enc d1 (scopeD m kn 0 0) o d2 d3) (PT m kn y.size (anyT m.l kn y) kn) := fun y hy hge kn d1 d2 d3 hk => by
          have hsm := size_mem hy
          have hy2 := size_eq y
          refine .step (fun n => F69_eq n _ _ _ _ _ _) ?_
          simp only [T.cell0, D.toInt]
          refine .ite (fun _ => ?_) (fun h => absurd (by have := (GE_k hge).2; simp; omega) h)
          exact (PT.out (term y (GE.x hge) (by omega) kn hk)).mono fun r => PT.mono (by omega)
        cases hg with
        | block n f t s l h => exact absurd rfl hk29
        | leaf k n f t s l hk2 g => exfalso; have hn : k = 23 ∨ k = 24 ∨ k = 25 := hn; omega
        | ctl k n f t s l hk2 g h2 =>
          refine nested_of _ hn hx (spec := anyT m.l) (nx := keepN) (fun kn y => ⟨Nat.le_refl _, Nat.le_add_right _ _⟩) (fun kn y => ⟨[], by simp [keepN]⟩) loc hl (anyL_seq _ _ _ _ (by show k ≠ 25; omega) hk29 _ _ _) ?_
          intro y hy kn hk
          by_cases hge : GE y
          · exact part y hy hge kn _ _ _ hk
          have hy9 := g y hy hge
          have hsm := size_mem hy
          have hy2 := size_eq y
          refine .step (fun n => F69_eq n _ _ _ _ _ _) ?_
          simp only [T.cell0, T.cell1, T.cell2, T.cell3, T.cell4, T.cell5, cell_agg, List.getD_cons_zero, D.toInt]
          refine .ite (fun h => absurd hy9 (by simpa using h)) (fun _ => .ite (fun h => ?_) (fun _ => ?_))
          · exfalso
            have h : k = 25 := eq_of_beq h
            omega
          · exact (PT.out ((kids y hy (h2 y hy hy9)).1 hy9 kn (by omega))).mono fun r => PT.mono (by omega)
        | for_ n f t s a b c h1 h2 h3 h4 =>
          refine nested_of _ hn hx (spec := fun kn x => anyT m.l (inFor s kn x) x) (nx := inFor s) (inFor_nx s) (inFor_pre s) loc hl (anyL_for _ _ _ _ _ _ h1 h2 h3) ?_
          intro y hy kn hk
          by_cases hge : GE y
          · have := (GE_k hge).2
            have e : inFor s kn y = kn := if_neg (by omega)
            simp only [e]
            exact part y hy hge kn _ _ _ hk
          have hyc : y = c := by
            have hy : y ∈ [a, b, c] := hy
            simp only [List.mem_cons, List.not_mem_nil, or_false] at hy
            rcases hy with rfl | rfl | rfl
            · exact absurd h1 hge
            · exact absurd h2 hge
            · rfl
          subst hyc
          have hsm := size_mem hy
          have hy2 := size_eq y
          have e : inFor s kn y = kn ++ [s] := if_pos h3
          simp only [e]
          refine .step (fun n => F69_eq n _ _ _ _ _ _) ?_
          simp only [T.cell0, T.cell1, T.cell2, T.cell3, T.cell4, T.cell5]
          refine .ite (fun h => absurd h3 (by simpa [D.toInt] using h)) (fun _ => .ite (fun _ => ?_) (fun h => absurd rfl h))
          rw [sc_push, sc7, locD_len]
          refine .ite (fun _ => ?_) (fun h => absurd (by simp; omega) h)
          refine (PT.out ((kids y hy h4).1 h3 (kn ++ [s]) (by simp; omega))).mono fun r hr => ?_
          cases hs : anyT m.l (kn ++ [s]) y with
          | bad a e =>
            rw [hs] at hr
            obtain ⟨d, loc2, h1, h2, h3, h4⟩ := hr
            simp at h2 h3
            exact ⟨d, loc2, h1, by omega, by omega, h4⟩
          | ok x' => rw [hs] at hr; exact hr
      exact (PT.out goal).mono fun r => PT.mono (by omega)
    · have hx2 : GX x := by
        refine ⟨by omega, by omega, ?_⟩
        cases hg with
        | block n f t s l h => exact absurd rfl hk29
        | leaf k n f t s l hk2 g => exact GEs_of g
        | ctl k n f t s l hk2 g h2 => exfalso; have hn : ¬ (k = 23 ∨ k = 24 ∨ k = 25) := hn; omega
        | for_ n f t s a b c h1 h2 h3 h4 => exact absurd (show (25 : Int) = 23 ∨ (25 : Int) = 24 ∨ (25 : Int) = 25 by decide) hn
      exact (PT.out (term x hx2 hx loc hl)).mono fun r => PT.mono (by omega)
end Go.Proofs.Ytkimdfpmblhapaa.Va

/- The program: named parts, declarations, a module. -/
set_option linter.unusedVariables false
set_option linter.unusedSimpArgs false
namespace Go.Proofs.Ytkimdfpmblhapaa.Va
variable {m : T} {o : D}
theorem keyEq_str (a b : ByteArray) : keyEq .str (.str a) (.str b) = decide (a = b) := rfl
theorem mget_same (z v : D) (s : ByteArray) : ∀ l : List D, mget .str z (.str s) (mput .str (.str s) v l) = v
  | [] => by simp [mput, mget, keyEq, D.toStr, cell_agg]
  | p :: r => by
    unfold mput
    by_cases h : keyEq .str (.str s) (p.cell 0) = true
    · rw [if_pos h]; simp [mget, keyEq, D.toStr, cell_agg]
    · rw [if_neg h]
      unfold mget
      rw [if_neg h]
      exact mget_same z v s r
theorem mget_ne (z v : D) {s s2 : ByteArray} (hs : s2 ≠ s) : ∀ l : List D, mget .str z (.str s2) (mput .str (.str s) v l) = mget .str z (.str s2) l
  | [] => by simp [mput, mget, keyEq, D.toStr, cell_agg, hs]
  | p :: r => by
    unfold mput
    by_cases h : keyEq .str (.str s) (p.cell 0) = true
    · rw [if_pos h]
      have h2 : s = (p.cell 0).toStr := of_decide_eq_true h
      have h3 : ¬ keyEq .str (.str s2) (p.cell 0) = true := fun h4 => hs ((of_decide_eq_true h4 : s2 = _).trans h2.symm)
      unfold mget
      rw [if_neg h3, if_neg (show ¬ keyEq .str (.str s2) ((D.agg [.str s, v]).cell 0) = true by simp [keyEq, D.toStr, cell_agg, hs])]
    · rw [if_neg h]
      unfold mget
      rw [mget_ne z v hs r]
theorem mhas_put (v : D) (s s2 : ByteArray) : ∀ l : List D, mhas .str (.str s2) (mput .str (.str s) v l) = (decide (s2 = s) || mhas .str (.str s2) l)
  | [] => by simp [mput, mhas, keyEq, D.toStr, cell_agg]
  | p :: r => by
    unfold mput
    by_cases h : keyEq .str (.str s) (p.cell 0) = true
    · rw [if_pos h]
      have h2 : s = (p.cell 0).toStr := of_decide_eq_true h
      unfold mhas
      have e : keyEq .str (.str s2) (p.cell 0) = decide (s2 = s) := by rw [h2]; rfl
      rw [e]
      show (keyEq .str (.str s2) (.str s) || _) = _
      rw [keyEq_str, ← Bool.or_assoc, Bool.or_self]
    · rw [if_neg h]
      unfold mhas
      rw [mhas_put v s s2 r, ← Bool.or_assoc, ← Bool.or_assoc, Bool.or_comm (keyEq _ _ _)]
/-- What has been seen. -/
def SeenOk (seen : List ByteArray) (d : List D) : Prop := ∀ s, mget .str (.int 0) (.str s) d = .int (if memB s seen = true then 1 else 0)
theorem memB_snoc (s x : ByteArray) (l : List ByteArray) : memB s (l ++ [x]) = true ↔ memB s l = true ∨ s = x := by
  rw [memB_iff, memB_iff, List.mem_append, List.mem_singleton]
theorem SeenOk.put {seen : List ByteArray} {d : List D} (h : SeenOk seen d) (x : ByteArray) (hx : ¬ memB x seen = true) : SeenOk (seen ++ [x]) (mput .str (.str x) (.int 1) d) := by
  intro s
  by_cases hs : s = x
  · subst hs
    rw [mget_same, if_pos ((memB_snoc _ _ _).2 (.inr rfl))]
  · rw [mget_ne _ _ hs, h s]
    by_cases hm : memB s seen = true
    · rw [if_pos hm, if_pos ((memB_snoc _ _ _).2 (.inl hm))]
    · rw [if_neg hm, if_neg (fun h => ((memB_snoc _ _ _).1 h).elim hm hs)]
def NamedP (keep : Bool) (seen : List ByteArray) (x : T) (d3 : D) (sz : Nat) (res : Res T) (r : R) : Prop := match res with
  | .ok x' => ∃ md, r = (0, [(if keep = true then x'.setS x.s else x').enc, .sl md, d3]) ∧ SeenOk (seen ++ [x.s]) md
  | .bad a e => ∃ d d2 loc2, r = (0, [d, d2, scopeD m loc2 a e]) ∧ loc2.length ≤ sz ∧ e ≠ 0
theorem part_named (hm : m.l.length ≤ 1000) (hM : MapOk m o) (keep : Bool) (seen : List ByteArray) (md : List D) (hS : SeenOk seen md) (x : T) (hx : GX x) (hsz : x.size ≤ 400000) (d1 d2 : D) :
    EvP (fun n => F51 n x.enc d1 (.sl md) d2 (scopeD m [] 0 0) o (.bool keep)) (NamedP (m := m) keep seen x (scopeD m [] 0 0) x.size (if memB x.s seen = true then .bad x.f 9 else anyT m.l [] x)) := by
  refine .step (fun n => F51_eq n _ _ _ _ _ _ _) ?_
  simp only [T.cell2, toL_sl, hS x.s, D.toInt, D.toBool, mget_same]
  by_cases hseen : memB x.s seen = true
  · simp only [if_pos hseen]
    refine .ite (fun _ => ?_) (fun h => absurd (by decide) h)
    exact .bindE (fail_ev x [] 9) (.ret ⟨_, _, [], rfl, Nat.zero_le _, by decide⟩)
  · simp only [if_neg hseen]
    refine .ite (fun h => absurd h (by decide)) (fun _ => ?_)
    refine .bind (term_ev hm hM _ x [] (Nat.le_refl _) hsz (by simp; omega) hx) ?_
    have hsz2 := size_eq x
    intro r hr
    have hput := hS.put x.s hseen
    cases hs : anyT m.l [] x with
    | bad a e =>
      rw [hs] at hr
      obtain ⟨d, loc2, rfl, h1, h2, h3⟩ := hr
      simp only [List.length_nil] at h2
      refine .bind (Q1 := fun r => ∃ d, r = (0, [d])) (.ite (fun _ => .ret ⟨_, rfl⟩) (fun _ => .ret ⟨_, rfl⟩)) ?_
      rintro _ ⟨d', rfl⟩
      exact .ret ⟨_, _, loc2, rfl, by omega, h3⟩
    | ok x' =>
      rw [hs] at hr
      have hr : r = (0, [x'.enc, scopeD m [] 0 0]) := hr
      subst hr
      refine .bind (Q1 := fun r => r = (0, [(if keep = true then x'.setS x.s else x').enc])) (.ite (fun h => .ret ?_) (fun h => .ret ?_)) ?_
      · rw [if_pos h]
        simp only [List.getD_cons_zero, T.cell0, T.cell1, T.cell3, T.cell4, T.cell5]
        rfl
      · rw [if_neg h]; rfl
      rintro _ rfl
      exact .ret ⟨_, rfl, hput⟩
def LoopN (m : T) (acc : List T) (sz : Nat) (res : Res (List T)) (r : R) : Prop := match res with
  | .ok l => ∃ d, r = (2, [.sl (encs (acc ++ l)), scopeD m [] 0 0, d])
  | .bad a e => ∃ d d2 loc2 j, r = (j, [d, scopeD m loc2 a e, d2]) ∧ (j = 1 ∨ j = 2) ∧ loc2.length ≤ sz ∧ e ≠ 0
theorem named_loop (hm : m.l.length ≤ 1000) (hM : MapOk m o) (l : List T) (hl : sizes l ≤ 400000) (hG : ∀ x ∈ l, GX x) (keep : Bool) (d1 d2 : D) : ∀ (d i : Nat) (acc : List T) (md : List D), l.length - i ≤ d → i ≤ l.length → acc.length ≤ i → SeenOk ((names l).take i) md →
    EvP2 (fun n k => L18a_3 n (.sl (encs l)) (D.int (l.length : Int)) o d1 d2 (.bool keep) k [.sl (encs acc), .int i, scopeD m [] 0 0, .sl md]) (LoopN m acc (sizes l) (partsT m.l keep ((names l).take i) (l.drop i)))
  | d, i, acc, md, hd, hi, ha, hS => by
    have hlen := length_le_sizes l
    refine .step (fun n k => L18a_3_s n k _ _ _ _ _ _ _ _ _ _) ?_
    simp only [toL_sl, encs_length, D.toInt, sc9]
    refine .ite (fun h => ?_) (fun h => ?_)
    rotate_left
    · have h : l.length ≤ i := by simpa using h
      rw [List.drop_of_length_le h]
      exact .ret (by unfold partsT; exact ⟨_, by rw [List.append_nil]⟩)
    have hlt : i < l.length := by simpa using h
    have hsm := size_mem (List.getElem_mem hlt)
    refine .ite (fun _ => .ite (fun h => absurd h (by decide)) (fun _ => ?_)) (fun h => absurd (inR_nat hlt) h)
    rw [getD_encs _ hlt, W1 (by omega)]
    rw [List.drop_eq_getElem_cons hlt]
    unfold partsT
    refine .bind (part_named hm hM keep _ md hS (l[i]) (hG _ (List.getElem_mem hlt)) (by omega) d1 d2) ?_
    intro r hr
    have badc : ∀ (a e : Int), (if memB (l[i]).s ((names l).take i) = true then Res.bad (l[i]).f 9 else anyT m.l [] l[i]) = .bad a e → (∃ d d2 loc2, r = (0, [d, d2, scopeD m loc2 a e]) ∧ loc2.length ≤ (l[i]).size ∧ e ≠ 0) → EvP2 (fun n k => if (decide (acc.length + ([(r.2.getD 0 (D.int 0))] : List D).length ≤ 34359738368)) = true then (L18a_3 n (.sl (encs l)) (D.int (l.length : Int)) o d1 d2 (.bool keep) k [D.sl (encs acc ++ ([(r.2.getD 0 (D.int 0))] : List D)), D.int ((i + 1 : Nat) : Int), ((r.2.drop 1).getD 1 (D.int 0)), ((r.2.drop 1).getD 0 (D.int 0))]) else none) (LoopN m acc (sizes l) (.bad a e)) := by
      rintro a e _ ⟨d, d2, loc2, rfl, h1, h2⟩
      refine .ite (fun _ => ?_) (fun h => absurd (by simp; omega) h)
      refine .step (fun n k => L18a_3_s n k _ _ _ _ _ _ _ _ _ _) ?_
      simp only [toL_sl, encs_length, D.toInt, List.drop_succ_cons, List.drop_zero, List.getD_cons_zero, List.getD_cons_succ, sc9]
      refine .ite (fun h => ?_) (fun h => .ret ⟨_, _, loc2, 2, rfl, .inr rfl, by omega, h2⟩)
      have hlt2 : i + 1 < l.length := by
        have := of_decide_eq_true h
        omega
      exact .ite (fun _ => .ite (fun _ => .ret ⟨_, _, loc2, 1, rfl, .inl rfl, by omega, h2⟩) (fun h => absurd (by simpa using h2) h)) (fun h => absurd (inR_nat hlt2) h)
    by_cases hseen : memB (l[i]).s ((names l).take i) = true
    · rw [if_pos hseen]
      rw [if_pos hseen] at hr
      exact badc _ _ (if_pos hseen) hr
    rw [if_neg hseen]
    rw [if_neg hseen] at hr
    cases hs : anyT m.l [] l[i] with
    | bad a e =>
      rw [hs] at hr
      exact badc a e (by rw [if_neg hseen, hs]) hr
    | ok x' =>
      rw [hs] at hr
      obtain ⟨md', rfl, hS'⟩ := hr
      generalize hz : (if keep = true then x'.setS (l[i]).s else x') = z
      have happ : encs acc ++ [z.enc] = encs (acc ++ [z]) := by rw [encs_append]; rfl
      have hS2 : SeenOk ((names l).take (i + 1)) md' := by
        rw [List.take_succ_eq_append_getElem (by simp [names]; omega), show (names l)[i]'(by simp [names]; omega) = (l[i]).s by simp [names]]
        exact hS'
      simp only [List.drop_succ_cons, List.drop_zero, List.getD_cons_zero, List.getD_cons_succ]
      rw [happ]
      refine .ite (fun _ => ?_) (fun h => absurd (by simp [encs_length]; omega) h)
      match d, hd with
      | 0, hd => omega
      | d + 1, hd =>
        refine (named_loop hm hM l hl hG keep d1 d2 d (i + 1) (acc ++ [z]) md' (by omega) (by omega) (by simp; omega) hS2).mono fun r hr2 => ?_
        rw [List.take_succ_eq_append_getElem (by simp [names]; omega), show (names l)[i]'(by simp [names]; omega) = (l[i]).s by simp [names]] at hr2
        cases hr3 : partsT m.l keep ((names l).take i ++ [(l[i]).s]) (l.drop (i + 1)) with
        | bad a e => rw [hr3] at hr2; exact hr2
        | ok r' =>
          rw [hr3] at hr2
          obtain ⟨d9, hr2⟩ := hr2
          exact ⟨d9, by rw [hr2, List.append_assoc, ← hz]; rfl⟩
/-- Named parts. -/
theorem named_ev (hm : m.l.length ≤ 1000) (hM : MapOk m o) (l : List T) (hl : sizes l ≤ 400000) (hG : ∀ x ∈ l, GX x) (keep : Bool) : EvP (fun n => F33 n (.sl (encs l)) (.bool keep) (scopeD m [] 0 0) o) (PTs m [] (sizes l) (partsT m.l keep [] l) []) := by
  refine .step (fun n => F33_eq n _ _ _ _) ?_
  refine .bind (Q1 := fun r => ∃ d2, ∃ r', r = (0, [r'.2.getD 0 (D.int 0), r'.2.getD 1 (D.int 0), d2]) ∧ PTs m [] (sizes l) (partsT m.l keep [] l) [] r') ?_ ?_
  · refine .step (fun n => F18a_eq n _ _ _ _ _ _ _) ?_
    have hloop := named_loop hm hM l hl hG keep (D.int (0 : Int)) (D.int (0 : Int)) _ 0 [] [] (Nat.le_refl _) (Nat.zero_le _) (Nat.zero_le _) (fun s => by simp [mget, memB])
    rw [List.take_zero, List.drop_zero] at hloop
    rw [show l.length = (D.sl (encs l)).toL.length from (encs_length l).symm] at hloop
    refine .bind hloop.diag ?_
    intro r hr
    cases hs : partsT m.l keep [] l with
    | bad a e =>
      rw [hs] at hr
      obtain ⟨d, d2, loc2, j, rfl, hj, h1, h2⟩ := hr
      have hq : PTs m [] (sizes l) (.bad a e) [] (0, [d, scopeD m loc2 a e]) := ⟨d, loc2, rfl, Nat.zero_le _, by simpa using h1, h2⟩
      refine .ite (fun _ => .ret ⟨d2, (0, [d, scopeD m loc2 a e]), rfl, hq⟩) (fun h4 => .ite (fun _ => .ret ⟨d2, (0, [d, scopeD m loc2 a e]), rfl, hq⟩) (fun h5 => ?_))
      rcases hj with hj | hj
      · exact absurd hj h4
      · exact absurd hj h5
    | ok l' =>
      rw [hs] at hr
      obtain ⟨d2, rfl⟩ := hr
      refine .ite (fun h => absurd h (by simp)) (fun _ => .ite (fun _ => .ret ⟨d2, (0, [.sl (encs l'), scopeD m [] 0 0]), rfl, rfl⟩) (fun h => absurd rfl h))
  · rintro _ ⟨d2, r', rfl, hp⟩
    refine .ret ?_
    cases hs : partsT m.l keep [] l with
    | bad a e => rw [hs] at hp; obtain ⟨d, loc2, rfl, h⟩ := hp; exact ⟨d, loc2, rfl, h⟩
    | ok l' => rw [hs] at hp; have hp : r' = _ := hp; subst hp; rfl
end Go.Proofs.Ytkimdfpmblhapaa.Va

/- The program: declarations, a module, resolved. -/
set_option linter.unusedVariables false
set_option linter.unusedSimpArgs false
namespace Go.Proofs.Ytkimdfpmblhapaa.Va
variable {m : T} {o : D}
theorem GPart.x {t : T} (h : GPart t) : GX t := ⟨by rw [h.1]; decide, by rw [h.1]; decide, GEs_of h.2⟩
theorem fnames2 (p : T) (hp : p.l.length ≤ 400000) (x2 x3 x4 x5 x6 : D) (a e : Int) : ∀ (d i : Nat) (loc : List ByteArray), p.l.length - i ≤ d → i ≤ p.l.length → loc.length ≤ 900000 + i →
    EvP2 (fun n k => L19_14 n (.sl (encs p.l)) (D.int (p.l.length : Int)) x2 x3 x4 x5 x6 k [.int i, scopeD m loc a e]) (fun r => r = (1, [scopeD m (loc ++ (names p.l).drop i) a e]))
  | d, i, loc, hd, hi, hl => by
    refine .step (fun n k => L19_14_s n k _ _ _ _ _ _ _ _ _) ?_
    simp only [toL_sl, encs_length, D.toInt]
    refine .ite (fun h => ?_) (fun h => .ret ?_)
    · have hlt : i < p.l.length := by simpa using h
      refine .ite (fun _ => ?_) (fun h => absurd (inR_nat hlt) h)
      rw [getD_encs _ hlt, T.cell2, sc_push, W1 (by omega), sc7, locD_len]
      refine .ite (fun _ => ?_) (fun h => absurd (by simp; omega) h)
      have hdr : (names p.l).drop i = (p.l[i]).s :: (names p.l).drop (i + 1) := by
        rw [List.drop_eq_getElem_cons (by simp [names]; omega), show (names p.l)[i]'(by simp [names]; omega) = (p.l[i]).s by simp [names]]
      match d, hd with
      | 0, hd => omega
      | d + 1, hd =>
        refine (fnames2 p hp x2 x3 x4 x5 x6 a e d (i + 1) (loc ++ [(p.l[i]).s]) (by omega) (by omega) (by simp; omega)).mono fun r hr => ?_
        rw [hr, hdr, List.append_assoc]
        rfl
    · have h : p.l.length ≤ i := by simpa using h
      rw [List.drop_of_length_le (by simpa [names] using h), List.append_nil]
theorem sc_none (loc : List ByteArray) (a e : Int) : D.agg [(scopeD m loc a e).cell 0, (scopeD m loc a e).cell 1, (scopeD m loc a e).cell 2, (scopeD m loc a e).cell 3, (scopeD m loc a e).cell 4, (scopeD m loc a e).cell 5, (scopeD m loc a e).cell 6, D.sl ((((scopeD m loc a e).cell 7).toL).take (0 : Int).toNat), (scopeD m loc a e).cell 8, (scopeD m loc a e).cell 9] = scopeD m [] a e := rfl
theorem decl2_ev (hm : m.l.length ≤ 1000) (hM : MapOk m o) (t : T) (ht : t.size ≤ 400000) (hg : GD t) : EvP (fun n => F19 n t.enc (scopeD m [] 0 0) o) (PT m [] t.size (declT m.l t) []) := by
  have hsz := size_eq t
  refine .step (fun n => F19_eq n _ _ _) ?_
  simp only [T.cell0, T.cell1, T.cell3, T.cell4, T.cell5, toL_sl, encs_length, D.toInt]
  unfold declT
  refine .ite (fun h => ?_) (fun h => ?_)
  · have h : t.k = 30 := by simpa using h
    rw [if_pos h]
    have hp : ∀ x ∈ t.l, GX x := by
      cases hg with
      | rec_ n f t s l g => exact fun x hx => (g x hx).x
      | short k n f t s l hk _ => exfalso; have h : k = 30 := h; omega
      | fn n f t s p x b h0 h1 h2 h3 h4 => exact absurd (show (33 : Int) = 30 from h) (by decide)
    refine .bind (named_ev hm hM t.l (by omega) hp true) ?_
    intro r hr
    cases hs : partsT m.l true [] t.l with
    | bad a e =>
      rw [hs] at hr
      obtain ⟨d, loc2, rfl, h1, h2, h3⟩ := hr
      exact .ret ⟨_, loc2, rfl, h1, by omega, h3⟩
    | ok l' =>
      rw [hs] at hr
      have hr : r = (0, [.sl (encs l'), scopeD m [] 0 0]) := hr
      subst hr
      exact .ret rfl
  have h : ¬ t.k = 30 := by simpa using h
  rw [if_neg h]
  refine .ite (fun h2 => ?_) (fun h2 => ?_)
  rotate_left
  · have h2 : t.k ≠ 33 := by simpa using h2
    rw [if_pos h2]
    have hx : GX t := by
      cases hg with
      | rec_ n f t s l h => exact absurd rfl h
      | short k n f t s l hk g => exact ⟨by show k ≠ 25; omega, by show k ≠ 29; omega, GEs_of g⟩
      | fn n f t s p x b h0 h1 h2 h3 h4 => exact absurd rfl h2
    exact (PT.out (term_ev hm hM _ t [] (Nat.le_refl _) ht (by simp; omega) hx)).mono fun r => PT.mono (by omega)
  have h2 : t.k = 33 := by simpa using h2
  rw [if_neg (by simp [h2])]
  obtain ⟨p, x, b, hl, h0, h1, hx, hb, hbs⟩ : ∃ p x b, t.l = [p, x, b] ∧ (p.k = 35 ∧ p.n = 0 ∧ p.s = ⟨#[]⟩) ∧ (∀ y ∈ p.l, GPart y) ∧ GE x ∧ b.k = 29 ∧ GS b := by
    cases hg with
    | rec_ n f t s l h => exact absurd (show (30 : Int) = 33 from h2) (by decide)
    | short k n f t s l hk h => exfalso; have h2 : k = 33 := h2; omega
    | fn n f t s p x b g0 g1 g2 g3 g4 => exact ⟨p, x, b, rfl, g0, g1, g2, g3, g4⟩
  have hlen : t.l.length = 3 := by rw [hl]; rfl
  have e0 : (encs t.l).getD ((0 : Int).toNat) (D.int 0) = p.enc := by rw [hl]; rfl
  have e1 : (encs t.l).getD ((1 : Int).toNat) (D.int 0) = x.enc := by rw [hl]; rfl
  have e2 : (encs t.l).getD ((2 : Int).toNat) (D.int 0) = b.enc := by rw [hl]; rfl
  have hps : p.size + x.size + b.size + 1 ≤ 400000 ∧ p.size + x.size + b.size + 1 = t.size := by rw [hl] at hsz; simp only [sizes] at hsz; omega
  have hpp := size_eq p
  have hbb := size_eq b
  have hpl := length_le_sizes p.l
  simp only [e0, e1, e2, hlen, T.cell0, T.cell1, T.cell2, T.cell3, T.cell4, T.cell5, toL_sl, encs_length]
  refine .ite (fun h => absurd h (by decide)) (fun _ => .ite (fun _ => ?_) (fun h => absurd (by decide) h))
  -- behind an error
  have badc : ∀ (d3 : D) (a e : Int) (loc : List ByteArray) (d2 : D), e ≠ 0 → loc.length ≤ 400000 → EvP (fun n => if (inR (0 : Int) 3) = true then ((L19_14 n (.sl (encs p.l)) (D.int (p.l.length : Int)) o (D.agg [.int t.k, .int t.n, D.str (⟨#[]⟩ : ByteArray), .sl (encs t.l), .int t.f, .int t.t]) (D.agg [D.int (0 : Int), D.int (0 : Int), D.str (⟨#[]⟩ : ByteArray), D.sl ([] : List D), D.int (0 : Int), D.int (0 : Int)]) (D.agg [.int p.k, .int p.n, .str p.s, d2, .int p.f, .int p.t]) d3 n [D.int (0 : Int), scopeD m loc a e]).bind fun r4 => if r4.1 = 1 then (if (inR (2 : Int) 3) = true then (if ((((r4.2.getD 0 (D.int 0)).cell 9).toInt) == (0 : Int)) = true then ((F35 n b.enc (r4.2.getD 0 (D.int 0)) o).bind fun r5 => if (decide (0 ≤ 0) && decide (0 ≤ (((((r5.2.drop 1).getD 0 (D.int 0)).cell 7).toL).length : Int))) = true then (rt 0 [D.agg [.int t.k, .int t.n, D.str (⟨#[]⟩ : ByteArray), D.sl ([D.agg [.int p.k, .int p.n, .str p.s, d2, .int p.f, .int p.t], d3, (r5.2.getD 0 (D.int 0))] : List D), .int t.f, .int t.t], D.agg [(((r5.2.drop 1).getD 0 (D.int 0)).cell 0), (((r5.2.drop 1).getD 0 (D.int 0)).cell 1), (((r5.2.drop 1).getD 0 (D.int 0)).cell 2), (((r5.2.drop 1).getD 0 (D.int 0)).cell 3), (((r5.2.drop 1).getD 0 (D.int 0)).cell 4), (((r5.2.drop 1).getD 0 (D.int 0)).cell 5), (((r5.2.drop 1).getD 0 (D.int 0)).cell 6), D.sl (((((r5.2.drop 1).getD 0 (D.int 0)).cell 7).toL).take (0 : Int).toNat), (((r5.2.drop 1).getD 0 (D.int 0)).cell 8), (((r5.2.drop 1).getD 0 (D.int 0)).cell 9)]]) else none) else (if (decide (0 ≤ 0) && decide (0 ≤ ((((r4.2.getD 0 (D.int 0)).cell 7).toL).length : Int))) = true then (rt 0 [D.agg [.int t.k, .int t.n, D.str (⟨#[]⟩ : ByteArray), D.sl ([D.agg [.int p.k, .int p.n, .str p.s, d2, .int p.f, .int p.t], d3, b.enc] : List D), .int t.f, .int t.t], D.agg [((r4.2.getD 0 (D.int 0)).cell 0), ((r4.2.getD 0 (D.int 0)).cell 1), ((r4.2.getD 0 (D.int 0)).cell 2), ((r4.2.getD 0 (D.int 0)).cell 3), ((r4.2.getD 0 (D.int 0)).cell 4), ((r4.2.getD 0 (D.int 0)).cell 5), ((r4.2.getD 0 (D.int 0)).cell 6), D.sl ((((r4.2.getD 0 (D.int 0)).cell 7).toL).take (0 : Int).toNat), ((r4.2.getD 0 (D.int 0)).cell 8), ((r4.2.getD 0 (D.int 0)).cell 9)]]) else none)) else none) else none) else none)
      (PT m [] t.size (.bad a e) []) := by
    intro d3 a e loc d2 he hloc
    refine .ite (fun _ => ?_) (fun h => absurd (by decide) h)
    refine .bind (fnames2 p (by omega) _ _ _ _ _ a e _ 0 loc (Nat.le_refl _) (Nat.zero_le _) (by omega)).diag ?_
    rintro _ rfl
    refine .ite (fun _ => ?_) (fun h => absurd rfl h)
    simp only [List.getD_cons_zero, sc9, D.toInt, sc_none]
    refine .ite (fun _ => ?_) (fun h => absurd (by decide) h)
    refine .ite (fun h => absurd (by simpa using h) he) (fun _ => ?_)
    exact .ite (fun _ => .ret ⟨_, [], rfl, Nat.le_refl _, Nat.zero_le _, he⟩) (fun h => absurd (by simp) h)
  refine .bind (named_ev hm hM p.l (by omega) (fun y hy => (h1 y hy).x) false) ?_
  intro r hr
  rw [hl]
  simp only
  cases hp : partsT m.l false [] p.l with
  | bad a e =>
    rw [hp] at hr
    obtain ⟨d, loc2, rfl, h3, h4, h5⟩ := hr
    simp only [List.length_nil] at h4
    refine .ite (fun _ => ?_) (fun h => absurd (by decide) h)
    refine .bind (Q1 := fun r => ∃ d3, r = (0, [d3, scopeD m loc2 a e])) ?_ ?_
    · refine .step (fun n => F34_eq n _ _ _) ?_
      simp only [List.drop_succ_cons, List.drop_zero, List.getD_cons_zero, sc9, D.toInt]
      exact .ite (fun _ => .ret ⟨_, rfl⟩) (fun h => absurd (by simpa using h5) h)
    rintro _ ⟨d3, rfl⟩
    have := badc d3 a e loc2 d h5 (by omega)
    rw [hl] at this
    exact this
  | ok l' =>
    rw [hp] at hr
    have hr : r = (0, [.sl (encs l'), scopeD m [] 0 0]) := hr
    subst hr
    refine .ite (fun _ => ?_) (fun h => absurd (by decide) h)
    refine .bind (term_ev hm hM _ x [] (Nat.le_refl _) (by omega) (by simp; omega) (GE.x hx)) ?_
    have hxx := size_eq x
    intro r hr
    cases hxt : anyT m.l [] x with
    | bad a e =>
      rw [hxt] at hr
      obtain ⟨d, loc2, rfl, h3, h4, h5⟩ := hr
      simp only [List.length_nil] at h4
      have := badc d a e loc2 (.sl (encs l')) h5 (by omega)
      rw [hl] at this
      exact this
    | ok x' =>
      rw [hxt] at hr
      have hr : r = (0, [x'.enc, scopeD m [] 0 0]) := hr
      subst hr
      refine .ite (fun _ => ?_) (fun h => absurd (by decide) h)
      refine .bind (fnames2 p (by omega) _ _ _ _ _ 0 0 _ 0 [] (Nat.le_refl _) (Nat.zero_le _) (by simp)).diag ?_
      rintro _ rfl
      rw [List.drop_zero, List.nil_append]
      refine .ite (fun _ => ?_) (fun h => absurd rfl h)
      simp only [List.getD_cons_zero, sc9, D.toInt, List.drop_succ_cons, List.drop_zero]
      refine .ite (fun _ => ?_) (fun h => absurd (by decide) h)
      refine .ite (fun _ => ?_) (fun h => absurd rfl h)
      have hblock := (stmt_all hm hM _ b (Nat.le_refl _) (by omega) hbs).1 hb (names p.l) (by simp [names]; omega)
      refine .bind hblock ?_
      intro r hr
      cases hbt : anyT m.l (names p.l) b with
      | bad a e =>
        rw [hbt] at hr
        obtain ⟨d, loc2, rfl, h3, h4, h5⟩ := hr
        simp only [List.getD_cons_zero, List.drop_succ_cons, List.drop_zero, sc_none]
        exact .ite (fun _ => .ret ⟨_, [], rfl, Nat.le_refl _, Nat.zero_le _, h5⟩) (fun h => absurd (by simp) h)
      | ok b' =>
        rw [hbt] at hr
        have hr : r = (0, [b'.enc, scopeD m (names p.l) 0 0]) := hr
        subst hr
        simp only [List.getD_cons_zero, List.drop_succ_cons, List.drop_zero, sc_none]
        refine .ite (fun _ => .ret ?_) (fun h => absurd (by simp) h)
        rw [h0.2.1, h0.2.2]
        rfl
theorem declsT_seq (ds : List T) : ∀ l : List T, declsT ds l = seqT (fun _ => declT ds) keepN [] l
  | [] => rfl
  | x :: r => by
    unfold declsT seqT
    rw [declsT_seq ds r]
    cases declT ds x with
    | bad a e => rfl
    | ok x' => simp only [keepN]; cases seqT (fun _ => declT ds) keepN [] r <;> rfl
theorem decls_ev (hm : m.l.length ≤ 1000) (hz : sizes m.l ≤ 400000) (hM : MapOk m o) (hg : ∀ x ∈ m.l, GD x) : EvP (fun n => F18 n (.sl (encs m.l)) (scopeD m [] 0 0) o) (PTs m [] (sizes m.l) (declsT m.l m.l) []) := by
  have := gen_fun (form_0 (o := o) m.l) (by omega) (m := m) (spec := fun _ => declT m.l) (nx := keepN) (fun kn => kn = []) (fun kn _ h => h) (fun kn y => ⟨Nat.le_refl _, Nat.le_add_right _ _⟩) (fun y hy kn hkn _ => by
    have := size_mem hy
    subst hkn
    exact decl2_ev hm hM y (by omega) (hg y hy)) [] rfl (by simp; omega)
  rw [seqN_keep, ← declsT_seq] at this
  exact .step (fun n => F18_eq n _ _ _) this
end Go.Proofs.Ytkimdfpmblhapaa.Va

/- The program: Resolve. -/
set_option linter.unusedVariables false
set_option linter.unusedSimpArgs false
namespace Go.Proofs.Ytkimdfpmblhapaa.Va
variable {m : T} {o : D}
theorem declN_pos {s : ByteArray} {x : T} (h : x.s = s) (j : Nat) (r : List T) : declN s j (x :: r) = (j : Int) := if_pos h
theorem declN_neg {s : ByteArray} {x : T} (h : ¬ x.s = s) (j : Nat) (r : List T) : declN s j (x :: r) = declN s (j + 1) r := if_neg h
theorem declN_snoc (s : ByteArray) (x : T) : ∀ (l : List T) (j : Nat), declN s j (l ++ [x]) = if 0 ≤ declN s j l then declN s j l else if x.s = s then ((j + l.length : Nat) : Int) else -1
  | [], j => by
    simp only [List.nil_append, declN, List.length_nil, Nat.add_zero]
    rfl
  | y :: r, j => by
    rw [List.cons_append]
    by_cases h : y.s = s
    · simp only [declN_pos h]
      rw [if_pos (show (0 : Int) ≤ (j : Int) by omega)]
    · simp only [declN_neg h]
      rw [declN_snoc s x r (j + 1), show j + 1 + r.length = j + (y :: r).length by simp; omega]
theorem declN_take (s : ByteArray) : ∀ (l : List T) (i j : Nat), declN s j (l.take i) = if declN s j l < ((j + i : Nat) : Int) then declN s j l else -1
  | [], i, j => by
    rw [List.take_nil, show declN s j [] = -1 from rfl]
    exact (if_pos (by omega)).symm
  | x :: r, 0, j => by
    rw [List.take_zero, show declN s j [] = -1 from rfl]
    rcases declN_bound s (x :: r) j with h | ⟨h, _⟩
    · simp only [h]; exact (if_pos (by omega)).symm
    · rw [if_neg (by omega)]
  | x :: r, i + 1, j => by
    rw [List.take_succ_cons]
    by_cases h : x.s = s
    · simp only [declN_pos h]
      rw [if_pos (by omega)]
    · simp only [declN_neg h]
      rw [declN_take s r i (j + 1), show j + 1 + i = j + (i + 1) by omega]
structure MapP (ds : List T) (o : List D) : Prop where
  has : ∀ s, mhas .str (.str s) o = decide (0 ≤ declN s 0 ds)
  get : ∀ s, 0 ≤ declN s 0 ds → mget .str (.int 0) (.str s) o = .int (declN s 0 ds)
theorem MapP.put {ds : List T} {o : List D} (h : MapP ds o) (x : T) (hx : ¬ 0 ≤ declN x.s 0 ds) : MapP (ds ++ [x]) (mput .str (.str x.s) (.int (ds.length : Int)) o) := by
  refine ⟨fun s => ?_, fun s hs => ?_⟩
  · rw [mhas_put, h.has s, declN_snoc, Nat.zero_add]
    by_cases h1 : 0 ≤ declN s 0 ds
    · rw [if_pos h1, decide_eq_true h1, Bool.or_true]
    · rw [if_neg h1, decide_eq_false h1, Bool.or_false]
      by_cases h2 : s = x.s
      · rw [if_pos h2.symm, decide_eq_true h2, decide_eq_true (by omega)]
      · rw [if_neg (fun h => h2 h.symm), decide_eq_false h2]; rfl
  · rw [declN_snoc, Nat.zero_add] at hs ⊢
    by_cases h2 : s = x.s
    · subst h2
      rw [mget_same, if_neg hx, if_pos rfl]
    · rw [mget_ne _ _ h2]
      by_cases h1 : 0 ≤ declN s 0 ds
      · rw [if_pos h1]; exact h.get s h1
      · rw [if_neg h1, if_neg (fun h => h2 h.symm)] at hs
        exact absurd hs (by decide)
theorem names_loop (hm : m.l.length ≤ 1000) (x2 x3 y1 : D) : ∀ (d i : Nat) (o : List D), m.l.length - i ≤ d → i ≤ m.l.length → MapP (m.l.take i) o →
    EvP2 (fun n k => L8_3 n (.sl (encs m.l)) (.int (m.l.length : Int)) x2 x3 k [.int i, y1, .sl o]) (fun r => match dupL m.l i (m.l.drop i) with | some f => ∃ d, r = (1, [.int f, .int 9, T.zero.enc, d]) | none => ∃ o', r = (2, [y1, .sl o']) ∧ MapP m.l o')
  | d, i, o, hd, hi, hM => by
    refine .step (fun n k => L8_3_s n k _ _ _ _ _ _ _) ?_
    simp only [toL_sl, encs_length, D.toInt]
    refine .ite (fun h => ?_) (fun h => ?_)
    rotate_left
    · have h : m.l.length ≤ i := by simpa using h
      rw [List.drop_of_length_le h]
      rw [List.take_of_length_le h] at hM
      exact .ret ⟨o, rfl, hM⟩
    have hlt : i < m.l.length := by simpa using h
    refine .ite (fun _ => ?_) (fun h => absurd (inR_nat hlt) h)
    simp only [getD_encs _ hlt, T.cell2, T.cell4, hM.has]
    rw [List.drop_eq_getElem_cons hlt]
    unfold dupL
    have hb : declN (m.l[i]).s 0 (m.l.take i) = if declN (m.l[i]).s 0 m.l < (i : Int) then declN (m.l[i]).s 0 m.l else -1 := by
      have := declN_take (m.l[i]).s m.l i 0
      rwa [Nat.zero_add] at this
    have hnn : 0 ≤ declN (m.l[i]).s 0 m.l := by
      have := declN_take (m.l[i]).s m.l (i + 1) 0
      rw [List.take_succ_eq_append_getElem hlt, declN_snoc] at this
      rcases declN_bound (m.l[i]).s m.l 0 with h | ⟨h, _⟩
      · rw [h] at this hb
        rw [hb] at this
        simp at this
      · omega
    refine .ite (fun h => ?_) (fun h => ?_)
    · have h : 0 ≤ declN (m.l[i]).s 0 (m.l.take i) := by simpa using h
      have : declN (m.l[i]).s 0 m.l < (i : Int) := by
        by_cases hc : declN (m.l[i]).s 0 m.l < (i : Int)
        · exact hc
        · rw [hb, if_neg hc] at h; exact absurd h (by decide)
      rw [if_pos this]
      exact .ret ⟨_, rfl⟩
    · have h : ¬ 0 ≤ declN (m.l[i]).s 0 (m.l.take i) := by simpa using h
      have hnl : ¬ declN (m.l[i]).s 0 m.l < (i : Int) := by
        intro hc
        rw [hb, if_pos hc] at h
        exact h hnn
      rw [if_neg hnl, W1 (by omega)]
      have hput := hM.put (m.l[i]) h
      rw [← List.take_succ_eq_append_getElem hlt, show (m.l.take i).length = i by simp; omega] at hput
      match d, hd with
      | 0, hd => omega
      | d + 1, hd => exact names_loop hm x2 x3 y1 d (i + 1) _ (by omega) (by omega) hput
def GotE (res : Res T) (r : R) : Prop := GotR res r ∧ match res with | .bad _ e => e ≠ 0 | .ok _ => True
/-- The program comes to the module's resolved form. -/
theorem prog_resolve (hm : m.l.length ≤ 1000) (hz : sizes m.l ≤ 400000) (hg : ∀ x ∈ m.l, GD x) : EvP (fun n => F8 n m.enc) (GotE (resT m)) := by
  refine .step (fun n => F8_eq n _) ?_
  simp only [T.cell0, T.cell1, T.cell2, T.cell3, T.cell4, T.cell5, toL_sl, encs_length]
  unfold resT
  have hloop := names_loop (m := m) hm m.enc (scopeD m [] 0 0) T.zero.enc _ 0 [] (Nat.le_refl _) (Nat.zero_le _) ⟨fun s => by simp [mhas, declN], fun s h => by simp [declN] at h⟩
  rw [List.drop_zero] at hloop
  refine .bind hloop.diag ?_
  intro r hr
  cases hd : dupL m.l 0 m.l with
  | some f =>
    rw [hd] at hr
    obtain ⟨d, rfl⟩ := hr
    exact .ite (fun _ => .ret ⟨rfl, (by decide : (9 : Int) ≠ 0)⟩) (fun h => absurd rfl h)
  | none =>
    rw [hd] at hr
    obtain ⟨o', rfl, hM⟩ := hr
    refine .ite (fun h => absurd h (by simp)) (fun _ => .ite (fun _ => ?_) (fun h => absurd rfl h))
    have hMo : MapOk m (.sl o') := ⟨hM.has, hM.get⟩
    refine .bind (decls_ev hm hz hMo hg) ?_
    intro r hr
    cases hp : declsT m.l m.l with
    | bad a e =>
      rw [hp] at hr
      obtain ⟨d, loc2, rfl, _, _, he⟩ := hr
      simp only [List.drop_succ_cons, List.drop_zero, List.getD_cons_zero, sc9, sc8, D.toInt]
      exact .ite (fun _ => .ret ⟨rfl, he⟩) (fun h => absurd (by simpa using he) h)
    | ok l' =>
      rw [hp] at hr
      have hr : r = (0, [.sl (encs l'), scopeD m [] 0 0]) := hr
      subst hr
      simp only [List.drop_succ_cons, List.drop_zero, List.getD_cons_zero, sc9, sc8, D.toInt]
      exact .ite (fun h => absurd h (by decide)) (fun _ => .ret ⟨rfl, trivial⟩)
end Go.Proofs.Ytkimdfpmblhapaa.Va

/- A resolved module keeps shape and places; the laws. -/
set_option linter.unusedVariables false
set_option linter.unusedSimpArgs false
namespace Go.Proofs.Ytkimdfpmblhapaa.Va
variable {m : T} {o : D}
mutual
/-- A resolved term that has the shape and the places of the named one. -/
def Kp : T → T → Prop
  | .mk k _ _ l f t, y => (f = y.f ∧ t = y.t ∧ y.k ≠ 19 ∧ (k ≠ 19 → k = y.k) ∧ (y.s ≠ ⟨#[]⟩ → y.k = 13 ∨ y.k = 17 ∨ y.k = 34)) ∧ Kps l y.l
def Kps : List T → List T → Prop
  | [], ys => ys = []
  | x :: r, ys => match ys with
    | [] => False
    | y :: q => Kp x y ∧ Kps r q
end
mutual
/-- Names have no parts. -/
def Nm : T → Prop
  | .mk k _ _ l _ _ => (k = 19 → l = []) ∧ Nms l
def Nms : List T → Prop
  | [] => True
  | x :: r => Nm x ∧ Nms r
end
theorem kp_name {ds : List T} {loc : List ByteArray} {n : Int} {s : ByteArray} {f t : Int} {x' : T} (h : nameT ds loc s f t = .ok x') : Kp (.mk 19 n s [] f t) x' := by
  unfold nameT at h
  by_cases h1 : 0 ≤ localN s 0 loc.reverse
  · rw [if_pos h1] at h
    cases h
    exact ⟨⟨rfl, rfl, (by decide : (7 : Int) ≠ 19), fun h => absurd rfl h, fun h => absurd rfl h⟩, rfl⟩
  rw [if_neg h1] at h
  by_cases h2 : declK s ds = 31
  · rw [if_pos h2] at h
    cases h
    exact ⟨⟨rfl, rfl, (by decide : (8 : Int) ≠ 19), fun h => absurd rfl h, fun h => absurd rfl h⟩, rfl⟩
  rw [if_neg h2] at h
  by_cases h3 : declK s ds = 32
  · rw [if_pos h3] at h
    cases h
    exact ⟨⟨rfl, rfl, (by decide : (9 : Int) ≠ 19), fun h => absurd rfl h, fun h => absurd rfl h⟩, rfl⟩
  rw [if_neg h3] at h
  cases h
mutual
theorem kp_any (ds : List T) : ∀ (x : T) (loc : List ByteArray) (x' : T), Nm x → anyT ds loc x = .ok x' → Kp x x'
  | .mk k n s l f t, loc, x', hn, h => by
    unfold anyT at h
    by_cases h1 : k = 19
    · rw [if_pos h1] at h
      have := hn.1 h1
      subst h1 this
      exact kp_name h
    rw [if_neg h1] at h
    by_cases h2 : (k = 16 ∧ declK s ds ≠ 33) ∨ ((k = 15 ∨ k = 4) ∧ declK s ds ≠ 30)
    · rw [if_pos h2] at h
      cases h
    rw [if_neg h2] at h
    cases hL : anyL ds loc k s loc 0 l with
    | bad a e => rw [hL] at h; cases h
    | ok l' =>
      rw [hL] at h
      cases h
      refine ⟨⟨rfl, rfl, h1, fun _ => rfl, fun hs => ?_⟩, kp_anyL ds l loc k s loc 0 l' hn.2 hL⟩
      by_cases h3 : k = 13 ∨ k = 17
      · exact h3.elim .inl (fun h => .inr (.inl h))
      · exact absurd (if_neg h3) hs
theorem kp_anyL (ds : List T) : ∀ (l : List T) (loc : List ByteArray) (k : Int) (s : ByteArray) (known : List ByteArray) (i : Nat) (l' : List T), Nms l → anyL ds loc k s known i l = .ok l' → Kps l l'
  | [], loc, k, s, known, i, l', hn, h => by
    unfold anyL at h
    cases h
    rfl
  | x :: r, loc, k, s, known, i, l', hn, h => by
    unfold anyL at h
    cases hx : anyT ds (if k = 25 ∧ i = 2 then loc ++ [s] else known) x with
    | bad a e => rw [hx] at h; cases h
    | ok x' =>
      rw [hx] at h
      simp only at h
      cases hr : anyL ds loc k s (if k = 29 then moreT (if k = 25 ∧ i = 2 then loc ++ [s] else known) x else (if k = 25 ∧ i = 2 then loc ++ [s] else known)) (i + 1) r with
      | bad a e => rw [hr] at h; cases h
      | ok r' =>
        rw [hr] at h
        cases h
        exact ⟨kp_any ds x _ x' hn.1 hx, kp_anyL ds r _ _ _ _ _ r' hn.2 hr⟩
end
theorem Kp.k {x y : T} (h : Kp x y) (hx : x.k ≠ 19) : x.k = y.k := by
  cases x
  exact h.1.2.2.2.1 hx
theorem Kp.setS {x y : T} (h : Kp x y) (hx : x.k = 34) (s : ByteArray) : Kp x (y.setS s) := by
  have hk := h.k (by rw [hx]; decide)
  cases x
  exact ⟨⟨h.1.1, h.1.2.1, h.1.2.2.1, h.1.2.2.2.1, fun _ => .inr (.inr (by rw [← hx, hk]; rfl))⟩, h.2⟩
mutual
theorem GE.nm : ∀ {x : T}, GE x → Nm x
  | .mk k n s l f t, h => ⟨h.2.2.1, GEs.nm h.2.2.2⟩
theorem GEs.nm : ∀ {l : List T}, GEs l → Nms l
  | [], _ => trivial
  | x :: r, h => ⟨GE.nm h.1, GEs.nm h.2⟩
end
theorem nms_of : ∀ {l : List T}, (∀ x ∈ l, Nm x) → Nms l
  | [], _ => trivial
  | x :: r, h => ⟨h x (List.mem_cons_self ..), nms_of fun y hy => h y (List.mem_cons_of_mem _ hy)⟩
theorem nm_of {x : T} (hk : x.k ≠ 19) (h : ∀ y ∈ x.l, Nm y) : Nm x := by
  cases x
  exact ⟨fun h => absurd h hk, nms_of h⟩
theorem GS.nm : ∀ (b : Nat) {x : T}, x.size ≤ b → GS x → Nm x
  | 0, x, hb, h => by have := size_eq x; omega
  | b + 1, x, hb, h => by
    have kid : ∀ y ∈ x.l, GS y → Nm y := fun y hy g => by
      have := size_mem hy
      have := size_eq x
      exact GS.nm b (by omega) g
    cases h with
    | block n f t s l h => exact nm_of (by show (29 : Int) ≠ 19; decide) fun y hy => kid y hy (h y hy)
    | leaf k n f t s l hk h => exact nm_of (by show k ≠ 19; omega) fun y hy => (h y hy).nm
    | ctl k n f t s l hk h h2 =>
      refine nm_of (by show k ≠ 19; omega) fun y hy => ?_
      by_cases hg : GE y
      · exact hg.nm
      · exact kid y hy (h2 y hy (h y hy hg))
    | for_ n f t s a b c h1 h2 h3 h4 =>
      refine nm_of (by show (25 : Int) ≠ 19; decide) fun y hy => ?_
      have hy2 : y ∈ [a, b, c] := hy
      simp only [List.mem_cons, List.not_mem_nil, or_false] at hy2
      rcases hy2 with rfl | rfl | rfl
      · exact h1.nm
      · exact h2.nm
      · exact kid _ hy h4
theorem GPart.nm {x : T} (h : GPart x) : Nm x := nm_of (by rw [h.1]; decide) fun y hy => (h.2 y hy).nm
theorem kp_parts (ds : List T) (keep : Bool) : ∀ (l : List T) (seen : List ByteArray) (l' : List T), (∀ x ∈ l, GPart x) → partsT ds keep seen l = .ok l' → Kps l l'
  | [], seen, l', hg, h => by
    unfold partsT at h
    cases h
    rfl
  | x :: r, seen, l', hg, h => by
    unfold partsT at h
    by_cases hs : memB x.s seen = true
    · rw [if_pos hs] at h; cases h
    rw [if_neg hs] at h
    have gx := hg x (List.mem_cons_self ..)
    cases hx : anyT ds [] x with
    | bad a e => rw [hx] at h; cases h
    | ok x' =>
      rw [hx] at h
      simp only at h
      cases hr : partsT ds keep (seen ++ [x.s]) r with
      | bad a e => rw [hr] at h; cases h
      | ok r' =>
        rw [hr] at h
        cases h
        have hk := kp_any ds x [] x' gx.nm hx
        refine ⟨?_, kp_parts ds keep r _ r' (fun y hy => hg y (List.mem_cons_of_mem _ hy)) hr⟩
        by_cases hkeep : keep = true
        · rw [if_pos hkeep]; exact hk.setS gx.1 _
        · rw [if_neg hkeep]; exact hk
theorem kp_decl (ds : List T) (x x' : T) (hg : GD x) (h : declT ds x = .ok x') : Kp x x' := by
  unfold declT at h
  cases hg with
  | rec_ n f t s l g =>
    rw [if_pos (show (T.mk 30 n s l f t).k = 30 from rfl)] at h
    cases hp : partsT ds true [] (T.mk 30 n s l f t).l with
    | bad a e => rw [hp] at h; cases h
    | ok l' =>
      rw [hp] at h
      cases h
      exact ⟨⟨rfl, rfl, (by decide : (30 : Int) ≠ 19), fun _ => rfl, fun h => absurd rfl h⟩, kp_parts ds true l [] l' g hp⟩
  | short k n f t s l hk g =>
    rw [if_neg (show ¬ (T.mk k n s l f t).k = 30 by show ¬ k = 30; omega), if_pos (show (T.mk k n s l f t).k ≠ 33 by show ¬ k = 33; omega)] at h
    exact kp_any ds _ [] x' (nm_of (by show k ≠ 19; omega) fun y hy => (g y hy).nm) h
  | fn n f t s p x b g0 g1 g2 g3 g4 =>
    rw [if_neg (show ¬ (T.mk 33 n s [p, x, b] f t).k = 30 by show ¬ (33 : Int) = 30; decide), if_neg (show ¬ (T.mk 33 n s [p, x, b] f t).k ≠ 33 from fun h => h rfl)] at h
    simp only [T.l] at h
    cases hp : partsT ds false [] p.l with
    | bad a e => unfold T.l at hp; rw [hp] at h; cases h
    | ok l' =>
      unfold T.l at hp
      rw [hp] at h
      simp only at h
      cases hx : anyT ds [] x with
      | bad a e => rw [hx] at h; cases h
      | ok x2 =>
        rw [hx] at h
        simp only at h
        cases hb : anyT ds (names p.l) b with
        | bad a e => unfold T.l at hb; rw [hb] at h; cases h
        | ok b2 =>
          unfold T.l at hb
          rw [hb] at h
          cases h
          refine ⟨⟨rfl, rfl, (by decide : (33 : Int) ≠ 19), fun _ => rfl, fun h => absurd rfl h⟩, ?_, kp_any ds x [] x2 g2.nm hx, kp_any ds b _ b2 (GS.nm _ (Nat.le_refl _) g4) hb, rfl⟩
          cases p with
          | mk pk pn ps pl pf pt =>
            have hk : pk = 35 := g0.1
            exact ⟨⟨rfl, rfl, by show pk ≠ 19; omega, fun _ => rfl, fun h => absurd rfl h⟩, kp_parts ds false pl [] l' g1 hp⟩
theorem kp_decls (ds : List T) : ∀ (l l' : List T), (∀ x ∈ l, GD x) → declsT ds l = .ok l' → Kps l l'
  | [], l', hg, h => by
    unfold declsT at h
    cases h
    rfl
  | x :: r, l', hg, h => by
    unfold declsT at h
    cases hx : declT ds x with
    | bad a e => rw [hx] at h; cases h
    | ok x' =>
      rw [hx] at h
      simp only at h
      cases hr : declsT ds r with
      | bad a e => rw [hr] at h; cases h
      | ok r' =>
        rw [hr] at h
        cases h
        exact ⟨kp_decl ds x x' (hg x (List.mem_cons_self ..)) hx, kp_decls ds r r' (fun y hy => hg y (List.mem_cons_of_mem _ hy)) hr⟩
theorem kp_res (hm : GM m) {x : T} (h : resT m = .ok x) : Kp m x := by
  unfold resT at h
  cases hd : dupL m.l 0 m.l with
  | some f => rw [hd] at h; cases h
  | none =>
    rw [hd] at h
    simp only at h
    cases hp : declsT m.l m.l with
    | bad a e => rw [hp] at h; cases h
    | ok l' =>
      rw [hp] at h
      cases h
      have hk := hm.k
      have hK := kp_decls _ _ _ hm.ds hp
      cases m with
      | mk k n s l f t =>
        have hk : k = 36 := hk
        exact ⟨⟨rfl, rfl, by show k ≠ 19; omega, fun _ => rfl, fun h => absurd rfl h⟩, hK⟩
mutual
theorem Kp.size : ∀ (x y : T), Kp x y → y.size = x.size
  | .mk k n s l f t, .mk k2 n2 s2 l2 f2 t2, h => by
    rw [size_mk, size_mk, Kps.sizes l l2 h.2]
theorem Kps.sizes : ∀ (l l' : List T), Kps l l' → sizes l' = sizes l
  | [], l', h => by rw [show l' = [] from h]
  | x :: r, [], h => absurd h id
  | x :: r, y :: q, h => by
    show y.size + Go.Proofs.Ytkimdfpmblhapaa.Va.sizes q = x.size + Go.Proofs.Ytkimdfpmblhapaa.Va.sizes r
    rw [Kp.size x y h.1, Kps.sizes r q h.2]
end
theorem Kps.length : ∀ (l l' : List T), Kps l l' → l'.length = l.length
  | [], l', h => by rw [show l' = [] from h]
  | x :: r, [], h => absurd h id
  | x :: r, y :: q, h => by simp only [List.length_cons, Kps.length r q h.2]
theorem Kps.get : ∀ (l l' : List T), Kps l l' → ∀ (i : Nat) (h : i < l.length) (h' : i < l'.length), Kp l[i] l'[i]
  | x :: r, y :: q, h, 0, _, _ => h.1
  | x :: r, y :: q, h, i + 1, h1, h2 => Kps.get r q h.2 i (by simpa using h1) (by simpa using h2)
  | x :: r, [], h, _, _, _ => absurd h id
  | [], l', h, i, h1, _ => by simp at h1
theorem W1' {i : Nat} (h : i ≤ 900000) : D.int (IntKind.i64.wrap ((i : Int) + 1)) = .int ((i + 1 : Nat) : Int) := W1 h
/-- 'kept' says yes. -/
theorem kept_ev : ∀ (b : Nat) (x y : T), Kp x y → x.size ≤ b → x.size ≤ 400000 → EvP (fun n => F15 n x.enc y.enc) (fun r => r = (0, [.bool true]))
  | 0, x, y, hk, hb, hx => by have := size_eq x; omega
  | b + 1, x, y, hk, hb, hx => by
    have hsz := size_eq x
    have hlx := length_le_sizes x.l
    have hl : y.l.length = x.l.length := by cases x; exact Kps.length _ _ hk.2
    have h0 : x.f = y.f ∧ x.t = y.t ∧ y.k ≠ 19 ∧ (x.k ≠ 19 → x.k = y.k) ∧ (y.s ≠ ⟨#[]⟩ → y.k = 13 ∨ y.k = 17 ∨ y.k = 34) := by cases x; exact hk.1
    have hK : Kps x.l y.l := by cases x; exact hk.2
    obtain ⟨h1, h2, h3, h4, h5⟩ := h0
    refine .step (fun n => F15_eq n _ _) ?_
    simp only [T.cell0, T.cell2, T.cell3, T.cell4, T.cell5, toL_sl, encs_length, D.toInt, D.toStr, h1, h2, hl]
    refine .bind (Q1 := fun r => r = (0, [.bool false])) ?_ ?_
    · refine .ite (fun _ => ?_) (fun h => absurd (by simp) h)
      refine .ite (fun _ => ?_) (fun h => absurd (by simp) h)
      refine .ite (fun _ => ?_) (fun h => absurd (by simp) h)
      refine .ite (fun _ => ?_) (fun h => absurd (by simpa using h3) h)
      refine .ite (fun h => .ret ?_) (fun _ => .ret rfl)
      have h : x.k ≠ 19 := by simpa using h
      rw [show (x.k != y.k) = false by simp [h4 h]]
    rintro _ rfl
    simp only [List.getD_cons_zero, D.toBool]
    refine .ite (fun h => absurd h (by decide)) (fun _ => ?_)
    refine .bind (Q1 := fun r => r = (0, [.bool false])) ?_ ?_
    · refine .ite (fun h => ?_) (fun _ => .ret rfl)
      have h : y.s ≠ ⟨#[]⟩ := by simpa using h
      have h6 := h5 h
      refine .ite (fun g1 => ?_) (fun _ => .ret rfl)
      have g1 : y.k ≠ 13 := by simpa using g1
      refine .ite (fun g2 => ?_) (fun _ => .ret rfl)
      have g2 : y.k ≠ 17 := by simpa using g2
      refine .ret ?_
      rw [show (y.k != 34) = false by simp; omega]
    rintro _ rfl
    simp only [List.getD_cons_zero, D.toBool]
    refine .ite (fun h => absurd h (by decide)) (fun _ => ?_)
    have loop : ∀ (d i : Nat), x.l.length - i ≤ d → i ≤ x.l.length → EvP2 (fun n k => L15_6 n x.enc y.enc k [.int i]) (fun r => r = (2, [])) := by
      intro d
      induction d with
      | zero =>
        intro i hd hi
        refine .step (fun n k => L15_6_s n k _ _ _) ?_
        simp only [T.cell3, toL_sl, encs_length, D.toInt]
        exact .ite (fun h => absurd (of_decide_eq_true h) (by omega)) (fun _ => .ret rfl)
      | succ d ih =>
        intro i hd hi
        refine .step (fun n k => L15_6_s n k _ _ _) ?_
        simp only [T.cell3, toL_sl, encs_length, D.toInt, hl]
        refine .ite (fun h => ?_) (fun _ => .ret rfl)
        have hlt : i < x.l.length := by simpa using h
        have hlt2 : i < y.l.length := by omega
        have hsm := size_mem (List.getElem_mem hlt)
        refine .ite (fun _ => .ite (fun _ => ?_) (fun h => absurd (inR_nat hlt) h)) (fun h => absurd (inR_nat hlt) h)
        rw [getD_encs _ hlt, getD_encs _ hlt2]
        refine .bind (kept_ev b _ _ (Kps.get _ _ hK i hlt hlt2) (by omega) (by omega)) ?_
        rintro _ rfl
        refine .ite (fun h => absurd h (by decide)) (fun _ => ?_)
        rw [W1 (by omega)]
        exact ih (i + 1) (by omega) (by omega)
    refine .bind (loop _ 0 (Nat.le_refl _) (Nat.zero_le _)).diag ?_
    rintro _ rfl
    exact .ite (fun h => absurd h (by simp)) (fun _ => .ite (fun _ => .ret rfl) (fun h => absurd rfl h))
/-- 'Placed' says yes of a term and itself. -/
theorem placed_ev : ∀ (b : Nat) (x : T), x.size ≤ b → x.size ≤ 400000 → EvP (fun n => F10 n x.enc x.enc) (fun r => r = (0, [.bool true]))
  | 0, x, hb, hx => by have := size_eq x; omega
  | b + 1, x, hb, hx => by
    have hsz := size_eq x
    have hlx := length_le_sizes x.l
    refine .step (fun n => F10_eq n _ _) ?_
    simp only [T.cell0, T.cell1, T.cell2, T.cell3, T.cell4, T.cell5, toL_sl, encs_length, D.toInt, D.toStr]
    refine .bind (Q1 := fun r => r = (0, [.bool false])) ?_ ?_
    · refine .ite (fun _ => ?_) (fun h => absurd (by simp) h)
      refine .ite (fun _ => ?_) (fun h => absurd (by simp) h)
      refine .ite (fun _ => ?_) (fun h => absurd (by simp) h)
      refine .ite (fun _ => ?_) (fun h => absurd (by simp) h)
      refine .ite (fun _ => .ret ?_) (fun h => absurd (by simp) h)
      simp
    rintro _ rfl
    simp only [List.getD_cons_zero, D.toBool]
    refine .ite (fun h => absurd h (by decide)) (fun _ => ?_)
    have loop : ∀ (d i : Nat), x.l.length - i ≤ d → i ≤ x.l.length → EvP2 (fun n k => L10_4 n x.enc x.enc k [.int i]) (fun r => r = (2, [])) := by
      intro d
      induction d with
      | zero =>
        intro i hd hi
        refine .step (fun n k => L10_4_s n k _ _ _) ?_
        simp only [T.cell3, toL_sl, encs_length, D.toInt]
        exact .ite (fun h => absurd (of_decide_eq_true h) (by omega)) (fun _ => .ret rfl)
      | succ d ih =>
        intro i hd hi
        refine .step (fun n k => L10_4_s n k _ _ _) ?_
        simp only [T.cell3, toL_sl, encs_length, D.toInt]
        refine .ite (fun h => ?_) (fun _ => .ret rfl)
        have hlt : i < x.l.length := by simpa using h
        have hsm := size_mem (List.getElem_mem hlt)
        refine .ite (fun _ => .ite (fun _ => ?_) (fun h => absurd (inR_nat hlt) h)) (fun h => absurd (inR_nat hlt) h)
        rw [getD_encs _ hlt]
        refine .bind (placed_ev b _ (by omega) (by omega)) ?_
        rintro _ rfl
        refine .ite (fun h => absurd h (by decide)) (fun _ => ?_)
        rw [W1 (by omega)]
        exact ih (i + 1) (by omega) (by omega)
    refine .bind (loop _ 0 (Nat.le_refl _) (Nat.zero_le _)).diag ?_
    rintro _ rfl
    exact .ite (fun h => absurd h (by simp)) (fun _ => .ite (fun _ => .ret rfl) (fun h => absurd rfl h))
/-- The chapter's example. -/
def exM : T := .mk 36 0 ⟨#[]⟩ [.mk 32 0 ⟨#[97]⟩ [.mk 1 0 ⟨#[]⟩ [] 0 0] 0 0] 0 0
theorem exM_good : ∀ x ∈ exM.l, GD x := by
  intro x hx
  have hx : x ∈ [T.mk 32 0 ⟨#[97]⟩ [.mk 1 0 ⟨#[]⟩ [] 0 0] 0 0] := hx
  rw [List.mem_singleton] at hx
  subst hx
  refine .short 32 0 0 0 _ _ (.inr rfl) fun y hy => ?_
  rw [List.mem_singleton] at hy
  subst hy
  exact ⟨by decide, by decide, fun _ => rfl, trivial⟩
theorem exM_res : resT exM = .ok (.mk 36 0 ⟨#[]⟩ [.mk 32 0 ⟨#[]⟩ [.mk 1 0 ⟨#[]⟩ [] 0 0] 0 0] 0 0) := by rfl
theorem awake_ev : EvP (fun n => F6 n) (fun r => r = (0, [.bool true])) := by
  refine .step (fun n => F6_eq n) ?_
  refine .bind (prog_resolve (m := exM) (by decide) (by decide) exM_good) ?_
  rw [exM_res]
  rintro r ⟨hr, _⟩
  have hr : r = (0, [(T.mk 36 0 ⟨#[]⟩ [.mk 32 0 ⟨#[]⟩ [.mk 1 0 ⟨#[]⟩ [] 0 0] 0 0] 0 0).enc, .int 0, .int 0]) := hr
  subst hr
  refine .bind (Q1 := fun r => r = (0, [.bool true])) ?_ ?_
  · refine .ite (fun _ => .ite (fun _ => .ite (fun _ => .ret ?_) (fun h => absurd (by rfl) h)) (fun h => absurd (by rfl) h)) (fun h => absurd (by rfl) h)
    rfl
  rintro _ rfl
  exact .ret rfl
theorem awake_then {Q : R → Prop} (hQ : Q (0, [.bool true])) : EvP (fun n => (F6 n).bind fun r1 => rt 0 [D.bool ((r1.2.getD 0 (D.int 0)).toBool)]) Q := by
  refine .bind awake_ev ?_
  rintro _ rfl
  exact .ret hQ
theorem fn_k {m : T} (hm : GM m) : ∀ x ∈ m.l, x.k = 33 → ∃ p y b, x.l = [p, y, b] := by
  intro x hx hk
  have hg := hm.ds x hx
  cases hg with
  | rec_ n f t s l h => exact absurd (show (30 : Int) = 33 from hk) (by decide)
  | short k n f t s l h _ => exfalso; have hk : k = 33 := hk; omega
  | fn n f t s p y b h0 h1 h2 h3 h4 => exact ⟨p, y, b, rfl⟩
theorem GM.bounds {m : T} (hm : GM m) : m.l.length ≤ 1000 ∧ sizes m.l ≤ 400000 := by
  have := hm.len
  have := hm.size
  have := size_eq m
  omega
/-- 'ScopeResolves' says yes. -/
theorem resolves_ev (s : ByteArray) : EvP (fun n => F3 n (.str s)) (fun r => r = (0, [.bool true])) := by
  refine .step (fun n => F3_eq n _) ?_
  simp only [D.toStr]
  refine .ite (fun _ => awake_then rfl) (fun h => ?_)
  have h : s.size ≤ 2000 := by simp at h; omega
  refine .bind (parse_ev s (by omega)) ?_
  rintro _ (⟨d1, d2, e, rfl, he⟩ | ⟨m, rfl, hm⟩)
  · simp only [List.getD_cons_zero, List.getD_cons_succ, D.toInt]
    exact .ite (fun _ => awake_then rfl) (fun h => absurd (by simpa using he) h)
  simp only [List.getD_cons_zero, List.getD_cons_succ, D.toInt]
  refine .ite (fun h => absurd h (by decide)) (fun _ => ?_)
  obtain ⟨h1, h2⟩ := hm.bounds
  refine .bind (prog_resolve h1 h2 hm.ds) ?_
  rintro r4 ⟨hr4, he4⟩
  refine .bind (ref_resolve h1 h2 (fn_k hm)) ?_
  intro r5 hr5
  obtain ⟨x, a, e, h4, h5, hx⟩ : ∃ (x : T) (a e : Int), r4 = (0, [x.enc, .int a, .int e]) ∧ r5 = (0, [x.enc, .int a, .int e]) ∧ x.size ≤ 400000 := by
    cases hres : resT m with
    | bad a e =>
      rw [hres] at hr4 hr5
      exact ⟨T.zero, a, e, hr4, hr5, by decide⟩
    | ok x =>
      rw [hres] at hr4 hr5
      refine ⟨x, 0, 0, hr4, hr5, ?_⟩
      have := (kp_res hm hres).size
      have := hm.size
      omega
  subst h4 h5
  refine .bind (Q1 := fun r => r = (0, [.bool true])) ?_ ?_
  · simp only [List.getD_cons_zero, List.getD_cons_succ, D.toInt]
    refine .ite (fun _ => .ite (fun _ => ?_) (fun h => absurd (by simp) h)) (fun h => absurd (by simp) h)
    refine .bind (placed_ev _ x (Nat.le_refl _) hx) ?_
    rintro _ rfl
    exact .ite (fun _ => awake_then rfl) (fun h => absurd rfl h)
  rintro _ rfl
  exact .ret rfl
/-- 'ScopeKeeps' says yes. -/
theorem keeps_ev (s : ByteArray) : EvP (fun n => F5 n (.str s)) (fun r => r = (0, [.bool true])) := by
  refine .step (fun n => F5_eq n _) ?_
  simp only [D.toStr]
  refine .ite (fun _ => awake_then rfl) (fun h => ?_)
  have h : s.size ≤ 1000 := by simp at h; omega
  refine .bind (parse_ev s (by omega)) ?_
  rintro _ (⟨d1, d2, e, rfl, he⟩ | ⟨m, rfl, hm⟩)
  · simp only [List.getD_cons_zero, List.getD_cons_succ, D.toInt]
    exact .ite (fun _ => awake_then rfl) (fun h => absurd (by simpa using he) h)
  simp only [List.getD_cons_zero, List.getD_cons_succ, D.toInt]
  refine .ite (fun h => absurd h (by decide)) (fun _ => ?_)
  obtain ⟨h1, h2⟩ := hm.bounds
  have hms := hm.size
  refine .bind (prog_resolve h1 h2 hm.ds) ?_
  rintro r4 ⟨hr4, he4⟩
  cases hres : resT m with
  | bad a e =>
    rw [hres] at hr4
    have hr4 : r4 = (0, [T.zero.enc, .int a, .int e]) := hr4
    subst hr4
    simp only [List.getD_cons_zero, List.getD_cons_succ, D.toInt]
    rw [hres] at he4
    exact .ite (fun _ => awake_then rfl) (fun h => absurd (by simpa using he4) h)
  | ok x =>
    rw [hres] at hr4
    have hr4 : r4 = (0, [x.enc, .int 0, .int 0]) := hr4
    subst hr4
    simp only [List.getD_cons_zero, List.getD_cons_succ, D.toInt]
    refine .ite (fun h => absurd h (by decide)) (fun _ => ?_)
    refine .bind (Q1 := fun r => r = (0, [.bool true])) ?_ ?_
    · refine .bind (kept_ev _ m x (kp_res hm hres) (Nat.le_refl _) (by omega)) ?_
      rintro _ rfl
      exact .ite (fun _ => awake_then rfl) (fun h => absurd rfl h)
    rintro _ rfl
    exact .ret rfl
end Go.Proofs.Ytkimdfpmblhapaa.Va
