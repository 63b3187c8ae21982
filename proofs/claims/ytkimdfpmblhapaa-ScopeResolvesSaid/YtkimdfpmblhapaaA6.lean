/- The abstract interpreter over the loaded code, and parts of the proof that what it computes is what the call comes to. No condition beyond those that each theorem states. -/
import Derived.Test.YtkimdfpmblhapaaA5
set_option linter.unusedVariables false
set_option linter.unusedSimpArgs false
set_option linter.constructorNameAsVariable false
/- Calls: the way back: lists. -/
set_option linter.unusedVariables false
set_option linter.unusedSimpArgs false
namespace Go.Proofs.Ytkimdfpmblhapaa.Va
open Go.RowKit

theorem nodupP_uniq : ∀ {ins : List (Nat × Nat × Bool)} {q q' p j : Nat} {b b' : Bool}, nodupP ins = true → ins[q]? = some (p, j, b) → ins[q']? = some (p, j, b') → q = q'
  | x :: r, q, q', p, j, b, b', h, h1, h2 => by
    unfold nodupP at h
    simp only [Bool.and_eq_true] at h
    have key : ∀ (i : Nat) (c : Bool), r[i]? = some (p, j, c) → x.1 = p → x.2.1 = j → False := fun i c hi e1 e2 => by
      have := List.all_eq_true.1 h.1 _ (List.mem_of_getElem? hi)
      simp [e1, e2] at this
    cases q with
    | zero =>
      simp at h1
      cases q' with
      | zero => rfl
      | succ q' => exact (key q' b' (by simpa using h2) (by rw [h1]) (by rw [h1])).elim
    | succ q =>
      cases q' with
      | zero => simp at h2; exact (key q b (by simpa using h1) (by rw [h2]) (by rw [h2])).elim
      | succ q' => exact congrArg (· + 1) (nodupP_uniq h.2 (by simpa using h1) (by simpa using h2))
def backToks (l : List Nat) : List (Nat × Nat × Bool) → List Nat → List Tok
  | (p, j, b) :: r, m :: ms => (l.getD p 0, some j, b, m) :: backToks l r ms
  | _, _ => []
theorem backMarks_unT (l : List Nat) : ∀ (ins : List (Nat × Nat × Bool)) (ms : List Nat) (st : St), backMarks l ins ms st = unT (backToks l ins ms) st
  | [], ms, st => by cases ms <;> rfl
  | x :: r, [], st => rfl
  | (p, j, b) :: r, m :: ms, st => by
    unfold backMarks backToks unT
    exact backMarks_unT l r ms _
theorem backToks_mem (l : List Nat) : ∀ {ins : List (Nat × Nat × Bool)} {ms : List Nat} {x : Tok}, x ∈ backToks l ins ms ↔ ∃ (q p j : Nat) (b : Bool) (m : Nat), ins[q]? = some (p, j, b) ∧ ms[q]? = some m ∧ x = (l.getD p 0, some j, b, m)
  | [], ms, x => by
    cases ms <;> simp [backToks]
  | y :: r, [], x => by simp [backToks]
  | (p, j, b) :: r, m :: ms, x => by
    unfold backToks
    rw [List.mem_cons, backToks_mem l]
    constructor
    · rintro (rfl | ⟨q, p', j', b', m', h1, h2, rfl⟩)
      · exact ⟨0, p, j, b, m, rfl, rfl, rfl⟩
      · exact ⟨q + 1, p', j', b', m', by simpa using h1, by simpa using h2, rfl⟩
    · rintro ⟨q, p', j', b', m', h1, h2, rfl⟩
      cases q with
      | zero =>
        simp at h1 h2
        obtain ⟨rfl, rfl, rfl⟩ := h1
        subst h2
        exact .inl rfl
      | succ q => exact .inr ⟨q, p', j', b', m', by simpa using h1, by simpa using h2, rfl⟩
theorem marksAfter_length (st : St) (l : List Nat) : ∀ (ins : List (Nat × Nat × Bool)) (tk : List (Option Bool)), (marksAfter st l tk ins).length = ins.length
  | [], tk => rfl
  | (p, j, b) :: r, tk => by simp [marksAfter, marksAfter_length st l r]
theorem insToks_mem : ∀ {ins : List (Nat × Nat × Bool)} {q0 : Nat} {x : Tok}, x ∈ insToks q0 ins ↔ ∃ (i p j : Nat) (b : Bool), ins[i]? = some (p, j, b) ∧ x = (p, some j, b, q0 + i)
  | [], q0, x => by simp [insToks]
  | (p, j, b) :: r, q0, x => by
    unfold insToks
    rw [List.mem_cons, insToks_mem]
    constructor
    · rintro (rfl | ⟨i, p', j', b', h1, rfl⟩)
      · exact ⟨0, p, j, b, rfl, rfl⟩
      · exact ⟨i + 1, p', j', b', by simpa using h1, by rw [show q0 + 1 + i = q0 + (i + 1) by omega]⟩
    · rintro ⟨i, p', j', b', h1, rfl⟩
      cases i with
      | zero =>
        simp at h1
        obtain ⟨rfl, rfl, rfl⟩ := h1
        exact .inl rfl
      | succ i => exact .inr ⟨i, p', j', b', by simpa using h1, by rw [show q0 + 1 + i = q0 + (i + 1) by omega]⟩
theorem ownToks_mem {m : Nat} : ∀ {own : List (Nat × Bool)} {x : Tok}, x ∈ ownToks m own ↔ ∃ i b, (i, b) ∈ own ∧ x = (i, none, b, m)
  | [], x => by simp [ownToks]
  | (i, b) :: r, x => by
    unfold ownToks
    rw [List.mem_cons, ownToks_mem]
    constructor
    · rintro (rfl | ⟨i', b', h1, rfl⟩)
      · exact ⟨i, b, List.mem_cons_self, rfl⟩
      · exact ⟨i', b', List.mem_cons_of_mem _ h1, rfl⟩
    · rintro ⟨i', b', h1, rfl⟩
      rcases List.mem_cons.1 h1 with h1 | h1
      · cases h1; exact .inl rfl
      · exact .inr ⟨i', b', h1, rfl⟩
def fromTo (p : Nat) : Nat → List Nat
  | 0 => []
  | n + 1 => p :: fromTo (p + 1) n
theorem fromTo_snoc : ∀ (n p : Nat), fromTo p (n + 1) = fromTo p n ++ [p + n]
  | 0, p => rfl
  | n + 1, p => by
    rw [show fromTo p (n + 1 + 1) = p :: fromTo (p + 1) (n + 1) from rfl, fromTo_snoc n (p + 1), show p + 1 + n = p + (n + 1) by omega]
    rfl
theorem upto_fromTo : ∀ n, upto n = fromTo 0 n
  | 0 => rfl
  | n + 1 => by rw [fromTo_snoc, ← upto_fromTo n, Nat.zero_add]; rfl
theorem backOb_none (d : D) : backOb none d = none := rfl
theorem backObs_spec (ro : List Nat) (ds : List D) : ∀ (l : List Nat) (p k : Nat) (hp : List (Option Ob)), nodup l = true →
    (∀ n, n ∉ l → (backObs ro ds l p k hp).getD n none = hp.getD n none) ∧
    ∀ (i n : Nat), l[i]? = some n → (ro.contains (p + i) = true → (backObs ro ds l p k hp).getD n none = hp.getD n none) ∧
      (ro.contains (p + i) = false → ∃ idx : Nat, ((fromTo p l.length).filter (notIn ro))[idx]? = some (p + i) ∧ (backObs ro ds l p k hp).getD n none = backOb (hp.getD n none) (ds.getD (k + idx) (.int 0)))
  | [], p, k, hp, h => ⟨fun n _ => rfl, fun i n h => by simp at h⟩
  | x :: r, p, k, hp, h => by
    obtain ⟨hx, hr⟩ := nodup_cons h
    have hset : ∀ (y : Option Ob) (n : Nat), n ≠ x → (hp.set x y).getD n none = hp.getD n none := fun y n hn => by rw [getD_set, if_neg (fun h => hn h.1.symm)]
    have hf : ∀ q : Nat, ro.contains p = true → ((fromTo p (x :: r).length).filter (notIn ro))[q]? = ((fromTo (p + 1) r.length).filter (notIn ro))[q]? := fun q hc => by
      show ((p :: fromTo (p + 1) r.length).filter (notIn ro))[q]? = _
      rw [List.filter_cons_of_neg (by simp only [notIn, hc]; decide)]
    have hf2 : ∀ q : Nat, ro.contains p = false → ((fromTo p (x :: r).length).filter (notIn ro))[q]? = (p :: (fromTo (p + 1) r.length).filter (notIn ro))[q]? := fun q hc => by
      show ((p :: fromTo (p + 1) r.length).filter (notIn ro))[q]? = _
      rw [List.filter_cons_of_pos (by simp only [notIn, hc]; decide)]
    unfold backObs
    cases hc : ro.contains p with
    | true =>
      obtain ⟨h1, h2⟩ := backObs_spec ro ds r (p + 1) k hp hr
      simp only [if_true]
      refine ⟨fun n hn => h1 n (fun h => hn (List.mem_cons_of_mem _ h)), fun i n hi => ?_⟩
      cases i with
      | zero =>
        simp at hi
        subst hi
        refine ⟨fun _ => h1 _ hx, fun h => ?_⟩
        rw [Nat.add_zero, hc] at h
        cases h
      | succ i =>
        obtain ⟨h3, h4⟩ := h2 i n (by simpa using hi)
        rw [show p + 1 + i = p + (i + 1) by omega] at h3 h4
        refine ⟨h3, fun h => ?_⟩
        obtain ⟨idx, h5, h6⟩ := h4 h
        exact ⟨idx, by rw [hf idx hc]; exact h5, h6⟩
    | false =>
      obtain ⟨h1, h2⟩ := backObs_spec ro ds r (p + 1) (k + 1) (hp.set x (backOb (hp.getD x none) (ds.getD k (.int 0)))) hr
      simp only [Bool.false_eq_true, if_false]
      refine ⟨fun n hn => ?_, fun i n hi => ?_⟩
      · rw [h1 n (fun h => hn (List.mem_cons_of_mem _ h)), hset _ _ (fun h => hn (by rw [h]; exact List.mem_cons_self))]
      · cases i with
        | zero =>
          simp at hi
          subst hi
          refine ⟨fun h => ?_, fun _ => ⟨0, by rw [hf2 0 hc]; rfl, ?_⟩⟩
          · rw [Nat.add_zero, hc] at h; cases h
          · rw [h1 x hx, getD_set]
            split
            · rfl
            · rename_i hl
              have : hp.getD x none = none := by
                rw [List.getD_eq_getElem?_getD, List.getElem?_eq_none (by
                  rcases Nat.lt_or_ge x hp.length with h | h
                  · exact absurd ⟨rfl, h⟩ hl
                  · exact h)]
                rfl
              rw [this]
              rfl
        | succ i =>
          have hnx : n ≠ x := fun h => hx (h ▸ List.mem_of_getElem? (by simpa using hi))
          obtain ⟨h3, h4⟩ := h2 i n (by simpa using hi)
          rw [show p + 1 + i = p + (i + 1) by omega] at h3 h4
          rw [hset _ _ hnx] at h3 h4
          refine ⟨h3, fun h => ?_⟩
          obtain ⟨idx, h5, h6⟩ := h4 h
          exact ⟨idx + 1, by rw [hf2 _ hc]; simpa using h5, by rw [show k + (idx + 1) = k + 1 + idx by omega]; exact h6⟩
theorem shapes_spec {P : Program} : ∀ {ts : List TypeId} {ss : List Sh}, shapes P ts = some ss → ss.length = ts.length ∧ ∀ (i : Nat) (t : TypeId), ts[i]? = some t → ∃ s, ss[i]? = some s ∧ shp P t = some s
  | [], ss, h => by cases h; exact ⟨rfl, fun i t h => by simp at h⟩
  | t :: r, ss, h => by
    unfold shapes at h
    split at h
    · rename_i s l h1 h2
      cases h
      obtain ⟨h3, h4⟩ := shapes_spec h2
      refine ⟨by simp [h3], fun i t' hi => ?_⟩
      cases i with
      | zero => simp at hi; subst hi; exact ⟨s, rfl, h1⟩
      | succ i =>
        obtain ⟨s', h5, h6⟩ := h4 i t' (by simpa using hi)
        exact ⟨s', by simpa using h5, h6⟩
    · cases h
def resAps (own : List (Nat × Bool)) (m i : Nat) (s : Sh) : List Ap := match resAVs.ownOf own i with
  | some true => [.arr m]
  | some false => [.own m]
  | none => roAps s.ks
theorem resAVs_at (own : List (Nat × Bool)) (m : Nat) (ds : List D) : ∀ (ss : List Sh) (i0 i : Nat), (resAVs own m ss i0 ds)[i]? = (ss[i]?).map fun s => .dt s (ds.getD (i0 + i) (.int 0)) (resAps own m (i0 + i) s)
  | [], i0, i => by simp [resAVs]
  | s :: r, i0, 0 => by simp [resAVs, resAps]; rfl
  | s :: r, i0, i + 1 => by
    unfold resAVs
    rw [List.getElem?_cons_succ, resAVs_at own m ds r (i0 + 1) i, List.getElem?_cons_succ, show i0 + 1 + i = i0 + (i + 1) by omega]
theorem resAVs_length (own : List (Nat × Bool)) (m : Nat) (ds : List D) : ∀ (ss : List Sh) (i0 : Nat), (resAVs own m ss i0 ds).length = ss.length
  | [], i0 => rfl
  | s :: r, i0 => by simp [resAVs, resAVs_length own m ds r]
theorem ownOf_mem : ∀ {own : List (Nat × Bool)} {i : Nat} {b : Bool}, resAVs.ownOf own i = some b → (i, b) ∈ own
  | [], i, b, h => by cases h
  | (i', b') :: r, i, b, h => by
    unfold resAVs.ownOf at h
    split at h
    · rename_i he; cases h; subst he; exact List.mem_cons_self
    · exact List.mem_cons_of_mem _ (ownOf_mem h)
theorem ownOf_none : ∀ {own : List (Nat × Bool)} {i : Nat}, resAVs.ownOf own i = none → ∀ b, (i, b) ∉ own
  | [], i, h, b => by simp
  | (i', b') :: r, i, h, b => by
    unfold resAVs.ownOf at h
    split at h
    · cases h
    · rename_i he
      intro hm
      rcases List.mem_cons.1 hm with hm | hm
      · cases hm; exact he rfl
      · exact ownOf_none h b hm
/-- The marks are forgotten. -/
def forget (tk : List (Option Bool)) : List Nat → List (Option Bool)
  | [] => tk
  | m :: r => forget (tk.set m none) r
theorem forget_getD : ∀ (ms : List Nat) (tk : List (Option Bool)) (m : Nat), (forget tk ms).getD m none = if m ∈ ms then none else tk.getD m none
  | [], tk, m => by simp [forget]
  | x :: r, tk, m => by
    unfold forget
    rw [forget_getD r]
    by_cases h : m ∈ r
    · simp [h]
    · rw [if_neg h, getD_set]
      by_cases h2 : x = m
      · subst h2
        by_cases h3 : x < tk.length
        · simp [h3]
        · rw [if_neg (fun h => h3 h.2), if_pos List.mem_cons_self, List.getD_eq_getElem?_getD, List.getElem?_eq_none (by omega)]
          rfl
      · rw [if_neg (fun h => h2 h.1), if_neg]
        simp [h]
        exact fun h => h2 h.symm
def stMid (st : St) (ms : List Nat) : St := { st with fr := st.fr.map (dropAV ms), hp := st.hp.map (dropOb ms), tk := forget st.tk ms }
theorem dropAp_nil (a : Ap) : dropAp [] a = a := by cases a <;> rfl
theorem map_dropAp_nil (l : List Ap) : l.map (dropAp []) = l := by rw [show dropAp [] = id from funext dropAp_nil, List.map_id]
def dropQ (ms : List Nat) (a : AV) : AV := if ms.isEmpty then a else dropAV ms a
theorem dropAll_fr (st : St) (ms : List Nat) (i : Nat) : (dropAll st ms).fr.getD i .undef = dropQ ms (st.fr.getD i .undef) := by
  unfold dropAll dropQ
  split
  · rfl
  · exact getD_map _ _ _ _ rfl
theorem dropAll_hp (st : St) (ms : List Nat) (n : Nat) : (dropAll st ms).hp.getD n none = dropOb ms (st.hp.getD n none) := by
  unfold dropAll
  split
  · rename_i h
    have : ms = [] := by simpa using h
    subst this
    cases h : st.hp.getD n none with
    | none => rfl
    | some o => cases o with
      | map k v d => rfl
      | cells s d aps => show _ = some (Ob.cells s d (aps.map (dropAp []))); rw [map_dropAp_nil]
  · exact getD_map _ _ _ _ rfl
theorem dropAll_tk (st : St) (ms : List Nat) (m : Nat) : (dropAll st ms).tk.getD m none = if m ∈ ms ∧ m < st.tk.length then some false else st.tk.getD m none := by
  unfold dropAll
  split
  · rename_i h
    have : ms = [] := by simpa using h
    subst this
    simp
  · exact kill_getD _ _ _
theorem apNames_get {n : Nat} : ∀ {aps : List Ap}, n ∈ apNames aps → ∃ (j : Nat) (x : XV), aps[j]? = some (Ap.x x) ∧ n ∈ x.names
  | a :: r, h => by
    cases a with
    | x v =>
      unfold apNames at h
      rcases List.mem_append.1 h with h | h
      · exact ⟨0, v, rfl, h⟩
      · obtain ⟨j, x, h1, h2⟩ := apNames_get h
        exact ⟨j + 1, x, by simpa using h1, h2⟩
    | _ =>
      unfold apNames at h
      obtain ⟨j, x, h1, h2⟩ := apNames_get h
      exact ⟨j + 1, x, by simpa using h1, h2⟩
section
variable {P : Program} {X : Nat → Nat → Prop} {w0 : World} {g0 g g' : Gho} {st st' b : St} {a a' : Act} {w w' : World}
theorem rc_names {s : Sh} {d : D} {aps : List Ap} {cs : List Value} (h : RC P X g st w s d aps cs) : ∀ n ∈ apNames aps, st.has n = true := fun n hn => by
  obtain ⟨j, x, h1, h2⟩ := apNames_get hn
  have hj : j < s.ks.length := by rw [← h.lap]; exact (List.getElem?_eq_some_iff.1 h1).1
  have h3 := h.at_ j _ (List.getElem?_eq_getElem hj)
  rw [getD_of h1] at h3
  exact rx_names h3.2 n h2
theorem rv_names {x : AV} {v : Value} (h : RV P X g st w x v) : ∀ n ∈ avNames x, st.has n = true := fun n hn => by
  cases x with
  | dt s d aps => exact rc_names h.2 n hn
  | _ => cases hn
theorem ro_names {n : Nat} {o : Ob} (h : RO P X g st w n o) : ∀ k ∈ obNames (some o), st.has k = true := fun k hk => by
  cases o with
  | cells s d aps =>
    obtain ⟨_, _, _, _, _, h4⟩ := h
    exact rc_names h4 k hk
  | map _ _ _ => cases hk
theorem mid_has (ms : List Nat) (n : Nat) : (stMid st ms).has n = st.has n := by
  unfold St.has stMid
  simp only
  rw [getD_map _ _ _ _ rfl]
  cases st.hp.getD n none with
  | none => rfl
  | some o => cases o <;> rfl
theorem mid_known (ms : List Nat) (m : Nat) : knownTk (stMid st ms) m ↔ m ∉ ms ∧ knownTk st m := by
  unfold knownTk stMid
  simp only
  rw [forget_getD]
  split
  · rename_i h; exact ⟨fun h2 => (by cases h2), fun h2 => absurd h h2.1⟩
  · rename_i h; exact ⟨fun h2 => ⟨h, h2⟩, fun h2 => h2.2⟩
theorem mid_live (ms : List Nat) (m : Nat) : liveTk (stMid st ms) m = true ↔ m ∉ ms ∧ liveTk st m = true := by
  rw [liveTk_iff, liveTk_iff]
  unfold stMid
  simp only
  rw [forget_getD]
  split
  · rename_i h; exact ⟨fun h2 => (by cases h2), fun h2 => absurd h h2.1⟩
  · rename_i h; exact ⟨fun h2 => ⟨h, h2⟩, fun h2 => h2.2⟩
theorem map_drop_id {ms : List Nat} : ∀ {aps : List Ap}, (∀ a ∈ aps, ∀ m, apMark a = some m → m ∉ ms) → aps.map (dropAp ms) = aps
  | [], h => rfl
  | a :: r, h => by
    rw [List.map_cons, map_drop_id (fun a ha => h a (List.mem_cons_of_mem _ ha))]
    congr 1
    have := h a List.mem_cons_self
    cases a with
    | own m => exact if_neg (by simpa using this m rfl)
    | arr m => exact if_neg (by simpa using this m rfl)
    | _ => rfl
theorem noMark_drop {ms : List Nat} {a : AV} (h : dropAV.noMark ms a = true) : dropAV ms a = a ∧ ∀ l, a ≠ .tup l := by
  cases a with
  | tup l => cases h
  | dt s d aps =>
    refine ⟨?_, by simp⟩
    show AV.dt s d (aps.map (dropAp ms)) = _
    rw [map_drop_id fun a ha m hm => ?_]
    have := List.all_eq_true.1 h a ha
    cases a with
    | own m' => cases hm; simpa using this
    | arr m' => cases hm; simpa using this
    | _ => cases hm
  | ep m s d off =>
    refine ⟨?_, by simp⟩
    show (if ms.contains m = true then AV.undef else _) = _
    rw [if_neg]
    have h : (!ms.contains m) = true := h
    simpa using h
  | _ => exact ⟨rfl, by simp⟩
theorem rvb_rv {x : AV} {v : Value} (hx : ∀ l, x ≠ .tup l) : RVb P X g st w x v ↔ RV P X g st w x v := by
  cases x with
  | tup l => exact absurd rfl (hx l)
  | _ => exact Iff.rfl
theorem rv_mid {ms : List Nat} {x : AV} {v : Value} (h : RV P X g st w x v) : RV P X g (stMid st ms) w (dropQ ms x) v := by
  have hk : ∀ m, m ∉ ms → knownTk st m → knownTk (stMid st ms) m := fun m h1 h2 => (mid_known ms m).2 ⟨h1, h2⟩
  have hl : ∀ m, liveTk (stMid st ms) m = true → liveTk st m = true := fun m h => ((mid_live ms m).1 h).2
  have one : ∀ (x : AV) (v : Value), (∀ l, x ≠ .tup l) → RV P X g st w x v → RV P X g (stMid st ms) w (dropAV ms x) v := fun x v hx h =>
    rv_drop h hx (fun n hn => by rw [mid_has]; exact rv_names h n hn) hk hl
  have hnil : ∀ a : AV, (∀ l, a ≠ .tup l) → dropAV [] a = a := fun a ha => by
    cases a with
    | dt s d aps => show AV.dt s d (aps.map (dropAp [])) = _; rw [map_dropAp_nil]
    | tup l => exact absurd rfl (ha l)
    | _ => rfl
  by_cases hx : ∃ l, x = .tup l
  · obtain ⟨l, rfl⟩ := hx
    obtain ⟨vs, h1, h2⟩ := h
    unfold dropQ
    split
    · rename_i he
      have : ms = [] := by simpa using he
      subst this
      refine ⟨vs, h1, fun i a hi => ?_⟩
      obtain ⟨u, h3, h4⟩ := h2 i a hi
      refine ⟨u, h3, ?_⟩
      have ha : ∀ l, a ≠ .tup l := fun l hl => by subst hl; exact h4
      have := one a u ha ((rvb_rv ha).1 h4)
      rw [hnil a ha] at this
      exact (rvb_rv ha).2 this
    · show RV P X g (stMid st ms) w (if l.all (dropAV.noMark ms) = true then AV.tup l else .undef) v
      split
      · rename_i hall
        refine ⟨vs, h1, fun i a hi => ?_⟩
        obtain ⟨u, h3, h4⟩ := h2 i a hi
        refine ⟨u, h3, ?_⟩
        obtain ⟨h5, ha⟩ := noMark_drop (List.all_eq_true.1 hall a (List.mem_of_getElem? hi))
        have := one a u ha ((rvb_rv ha).1 h4)
        rw [h5] at this
        exact (rvb_rv ha).2 this
      · trivial
  · have hx' : ∀ l, x ≠ .tup l := fun l h => hx ⟨l, h⟩
    have := one x v hx' h
    unfold dropQ
    split
    · rename_i he
      have : ms = [] := by simpa using he
      subst this
      rw [hnil x hx'] at this
      assumption
    · exact this
end
end Go.Proofs.Ytkimdfpmblhapaa.Va

/- Calls: the state behind a call. -/
set_option linter.unusedVariables false
set_option linter.unusedSimpArgs false
namespace Go.Proofs.Ytkimdfpmblhapaa.Va
open Go.RowKit

def ownB (l : List Nat) (M : List (Option Nat)) (NM : List Nat) (h : Gh) : Gh → Gh
  | .dat => (match ownC l M h with | .dat => h | _ => .dat)
  | .ob p => if p < l.length then .ob (l.getD p 0) else .dat
  | .tl q s => match NM[q]? with | some m => .tl m s | none => .dat
  | .rw q => match NM[q]? with | some m => .rw m | none => .dat
theorem ownB_cases (l : List Nat) (M : List (Option Nat)) (NM : List Nat) (h hE : Gh) : ownB l M NM h hE = .dat ∨ (hE = .dat ∧ ownC l M h = .dat ∧ ownB l M NM h hE = h) ∨ (∃ p, hE = .ob p ∧ p < l.length ∧ ownB l M NM h hE = .ob (l.getD p 0)) ∨
    (∃ q m, NM[q]? = some m ∧ ((∃ s, hE = .tl q s ∧ ownB l M NM h hE = .tl m s) ∨ (hE = .rw q ∧ ownB l M NM h hE = .rw m))) := by
  cases hE with
  | dat =>
    unfold ownB
    cases hc : ownC l M h with
    | dat => exact .inr (.inl ⟨rfl, rfl, by simp⟩)
    | _ => exact .inl rfl
  | ob p =>
    unfold ownB
    by_cases hl : p < l.length
    · exact .inr (.inr (.inl ⟨p, rfl, hl, if_pos hl⟩))
    · exact .inl (if_neg hl)
  | tl q s =>
    cases hq : NM[q]? with
    | none => exact .inl (by unfold ownB; simp only [hq])
    | some m => exact .inr (.inr (.inr ⟨q, m, hq, .inl ⟨s, rfl, by unfold ownB; simp only [hq]⟩⟩))
  | rw q =>
    cases hq : NM[q]? with
    | none => exact .inl (by unfold ownB; simp only [hq])
    | some m => exact .inr (.inr (.inr ⟨q, m, hq, .inr ⟨rfl, by unfold ownB; simp only [hq]⟩⟩))
theorem ownC_out {l : List Nat} {M : List (Option Nat)} {h : Gh} {m : Nat} (hh : h.isTk m) (hm : m ∉ M.filterMap id) : ownC l M h = .dat := by
  have key : idxM m 0 M = none := by
    cases hi : idxM m 0 M with
    | none => rfl
    | some q =>
      obtain ⟨i, _, h2⟩ := idxM_some hi
      exact absurd (nodup_mem h2) hm
  rcases hh with ⟨s, hh⟩ | hh
  · subst hh; unfold ownC; simp only [key]
  · subst hh; unfold ownC; simp only [key]
theorem mem_nodup {m : Nat} : ∀ {M : List (Option Nat)}, m ∈ M.filterMap id → ∃ i : Nat, M[i]? = some (some m) := by
  intro M h
  obtain ⟨x, h1, h2⟩ := List.mem_filterMap.1 h
  simp only [id] at h2
  subst h2
  exact mem_getElem h1
theorem ownC_in {l : List Nat} {M : List (Option Nat)} {h : Gh} {m : Nat} (hd : nodup (M.filterMap id) = true) (hh : h.isTk m) (hm : m ∈ M.filterMap id) : ownC l M h ≠ .dat := by
  obtain ⟨i, hi⟩ := mem_nodup hm
  have key := idxM_at hd hi
  rcases hh with ⟨s, hh⟩ | hh
  · subst hh; unfold ownC; simp only [key]; simp
  · subst hh; unfold ownC; simp only [key]; simp
theorem rx_back {g gE : Gho} {l : List Nat} {ok ok' : Nat → Bool} (hmu : ∀ n, n ∈ l → gE.mu (posOf l n) = g.mu n) (hok : ∀ n, n ∈ l → ok' n = true) {y : XV} {v : Value} (h : RX gE ok y v) : ∀ x : XV, y = x.ren l → (∀ n ∈ x.names, n ∈ l) → RX g ok' x v := by
  induction h with
  | nilp => intro x hx hn; cases x <;> simp [XV.ren] at hx; exact .nilp
  | nilm => intro x hx hn; cases x <;> simp [XV.ren] at hx; exact .nilm
  | nilf => intro x hx hn; cases x <;> simp [XV.ren] at hx; exact .nilf
  | ptr n off _ =>
    intro x hx hn
    cases x <;> simp [XV.ren] at hx
    rename_i n' off'
    obtain ⟨rfl, rfl⟩ := hx
    have hl := hn n' (by simp [XV.names])
    rw [hmu n' hl]
    exact .ptr n' off (hok n' hl)
  | mp n _ =>
    intro x hx hn
    cases x <;> simp [XV.ren] at hx
    rename_i n'
    subst hx
    have hl := hn n' (by simp [XV.names])
    rw [hmu n' hl]
    exact .mp n' (hok n' hl)
  | fn f a b va vb ha hb _ _ i1 i2 =>
    intro x hx hn
    cases x <;> simp [XV.ren] at hx
    rename_i f' a' b'
    obtain ⟨rfl, rfl, rfl⟩ := hx
    rw [rn_length] at ha hb
    refine .fn f a' b' va vb ha hb (fun i x v h1 h2 => ?_) (fun i x v h1 h2 => ?_)
    · exact i1 i (x.ren l) v (by rw [rn_at, h1]; rfl) h2 x rfl (fun n hnn => hn n (by unfold XV.names; exact List.mem_append_left _ (mem_nm hnn (List.mem_of_getElem? h1))))
    · exact i2 i (x.ren l) v (by rw [rn_at, h1]; rfl) h2 x rfl (fun n hnn => hn n (by unfold XV.names; exact List.mem_append_right _ (mem_nm hnn (List.mem_of_getElem? h1))))
/-- The state behind a call, ahead of its result. -/
def clMid (fc : FCfg) (st : St) (l ms : List Nat) (dst : Option Tmp) (n : Nat) (ds : List D) : St :=
  let st1 := dropAll st ms
  let st2 := { st1 with hp := backObs fc.roIn (ds.drop n) l 0 0 st1.hp }
  let st3 := backMarks l fc.ins (marksAfter st l st.tk fc.ins) st2
  if fc.own.isEmpty then st3 else { st3 with tk := st3.tk.set (st.tb + dst.getD 0) (some true) }
theorem clBack_mid (fc : FCfg) (st : St) (l ms : List Nat) (dst : Option Tmp) (ss : List Sh) (ds : List D) :
    clBack fc st l ms dst ss ds = (clMid fc st l ms dst ss.length ds).put dst (resAV (resAVs fc.own (st.tb + dst.getD 0) ss 0 ds)) := rfl
def newM (fc : FCfg) (st : St) (l : List Nat) (dst : Option Tmp) : List Nat := marksAfter st l st.tk fc.ins ++ (if fc.own.isEmpty then [] else [st.tb + dst.getD 0])
section
variable {P : Program} {fc : FCfg} {st : St} {l ms : List Nat} {dst : Option Tmp} {k : Nat} {ds : List D}
theorem backToks_marks (l : List Nat) : ∀ (ins : List (Nat × Nat × Bool)) (ms : List Nat), ms.length = ins.length → (backToks l ins ms).map (·.2.2.2) = ms
  | [], [], _ => rfl
  | x :: r, m :: ms, h => by
    unfold backToks
    rw [List.map_cons, backToks_marks l r ms (by simpa using h)]
  | [], _ :: _, h => by cases h
  | _ :: _, [], h => by cases h
theorem clMid_fr : (clMid fc st l ms dst k ds).fr = (dropAll st ms).fr := by
  unfold clMid
  simp only
  split <;> simp only [backMarks_fr]
theorem clMid_hp : (clMid fc st l ms dst k ds).hp = (unT (backToks l fc.ins (marksAfter st l st.tk fc.ins)) { dropAll st ms with hp := backObs fc.roIn (ds.drop k) l 0 0 (dropAll st ms).hp }).hp := by
  unfold clMid
  simp only [backMarks_unT]
  split <;> rfl
theorem clMid_tk (m : Nat) : (clMid fc st l ms dst k ds).tk.getD m none = if m ∈ newM fc st l dst ∧ m < st.tk.length then some true else (dropAll st ms).tk.getD m none := by
  have hlen : (dropAll st ms).tk.length = st.tk.length := (Same.dropAll st ms).tk
  have h1 : (unT (backToks l fc.ins (marksAfter st l st.tk fc.ins)) { dropAll st ms with hp := backObs fc.roIn (ds.drop k) l 0 0 (dropAll st ms).hp }).tk.getD m none = if m ∈ marksAfter st l st.tk fc.ins ∧ m < st.tk.length then some true else (dropAll st ms).tk.getD m none := by
    rw [unT_tk, backToks_marks l _ _ (marksAfter_length st l _ _)]
    simp only [hlen]
  have hl2 : (unT (backToks l fc.ins (marksAfter st l st.tk fc.ins)) { dropAll st ms with hp := backObs fc.roIn (ds.drop k) l 0 0 (dropAll st ms).hp }).tk.length = st.tk.length := (unT_same _ _).tk.trans hlen
  unfold clMid newM
  simp only [backMarks_unT]
  by_cases ho : fc.own.isEmpty = true
  · rw [if_pos ho, if_pos ho, List.append_nil, h1]
  · rw [if_neg ho, if_neg ho]
    simp only
    rw [getD_set, h1, hl2]
    by_cases hm : st.tb + dst.getD 0 = m
    · subst hm
      by_cases hl : st.tb + dst.getD 0 < st.tk.length
      · simp [hl]
      · simp [hl]
    · rw [if_neg (fun h => hm h.1)]
      have : (m ∈ marksAfter st l st.tk fc.ins ++ [st.tb + dst.getD 0]) ↔ m ∈ marksAfter st l st.tk fc.ins := by
        rw [List.mem_append, List.mem_singleton]
        exact ⟨fun h => h.resolve_right (fun h => hm h.symm), .inl⟩
      simp only [this]
theorem clMid_same : Same st (clMid fc st l ms dst k ds) := by
  unfold clMid
  simp only
  have h : Same st (backMarks l fc.ins (marksAfter st l st.tk fc.ins) { dropAll st ms with hp := backObs fc.roIn (ds.drop k) l 0 0 (dropAll st ms).hp }) :=
    ((Same.dropAll st ms).trans (show Same (dropAll st ms) { dropAll st ms with hp := backObs fc.roIn (ds.drop k) l 0 0 (dropAll st ms).hp } from ⟨rfl, rfl, rfl, by simp [length_backObs], rfl, rfl, rfl, rfl, rfl⟩)).trans (Same.backMarks l _ _ _)
  split
  · exact h
  · exact ⟨h.nb, h.tb, h.fr, h.hp, by simpa using h.tk, h.prot, h.protM, h.protS, h.protT⟩
end
end Go.Proofs.Ytkimdfpmblhapaa.Va

/- Calls: what is so behind a call. -/
set_option linter.unusedVariables false
set_option linter.unusedSimpArgs false
namespace Go.Proofs.Ytkimdfpmblhapaa.Va
open Go.RowKit

def ghoB (l : List Nat) (M : List (Option Nat)) (NM : List Nat) (g gE : Gho) : Gho :=
  { mu := g.mu, own := fun b => ownB l M NM (g.own b) (gE.own b), rho := fun m => match idxM m 0 (NM.map some) with | some q => gE.rho q | none => g.rho m }
theorem map_some_id : ∀ (l : List Nat), (l.map some).filterMap id = l
  | [] => rfl
  | x :: r => by simp
section
variable {P : Program} {cfs : FuncId → Nat → FCfg} {fc : FCfg} {env : Env} {X X' : Nat → Nat → Prop} {w0 : World} {g0 g g' gc gE : Gho} {st st' b u stx : St} {a a' : Act} {w w' : World} {l : List Nat} {ts : List TypeId} {all : List AV}
/-- What is known when a call comes back. -/
structure Came (P : Program) (X : Nat → Nat → Prop) (w0 : World) (g0 g gE : Gho) (fc : FCfg) (fn : Func) (st stx u : St) (a : Act) (w w' : World) (l : List Nat) (ts : List TypeId) (all : List AV) (dst : Option Tmp) (obs : List Ob) (ds : List D) (us : Array Value) : Prop where
  rel : Rel P X w0 g0 g st a w
  pre : CallPre P fc st l ts all
  len : ts.length = all.length
  nm : nodup (newM fc st l dst) = true
  af : (marksAfter st l st.tk fc.ins).all (okAfter st ((callM P fc st l ts all).filterMap id)) = true
  own : ownOk fc.own st dst = true
  pj : nodupP fc.ins = true
  robs : renObs st.hp l fc.ins 0 l = some obs
  uis : u = (finI fc fn obs.length).un P (finB fc fn obs) ds
  out : Rel P (calleeX P fc st X g l ts all) w (calleeGho P fc st g a w l ts all) gE u { tmps := us, defers := [] } w'
  pk : PackOk P (finI fc fn obs.length) (finB fc fn obs) stx ds
variable {fn : Func} {dst : Option Tmp} {obs : List Ob} {ds : List D} {us : Array Value}
theorem Came.marks (C : Came P X w0 g0 g gE fc fn st stx u a w w' l ts all dst obs ds us) : ∀ m, m ∈ (callM P fc st l ts all).filterMap id → liveTk st m = true ∧ m ∉ st.protT := fun m hm => by
  unfold callM at hm
  rw [List.filterMap_append, inM_marks, gaM_marks] at hm
  rcases List.mem_append.1 hm with hm | hm
  · obtain ⟨x, hx, hxm⟩ := (mem_tokMarks st).1 hm
    obtain ⟨q, hq⟩ := mem_getElem hx
    rcases (ins_tok C.rel C.pre hq).2 with h3 | ⟨h3, _⟩ | ⟨m0, h3, _, hl0, hp0⟩ | ⟨m0, h3, _, hl0, hp0⟩ <;> rw [h3] at hxm <;> cases hxm
    · exact ⟨hl0, hp0⟩
    · exact ⟨hl0, hp0⟩
  · exact ⟨useTk_live (C.pre.use m hm), useTk_prot (C.pre.use m hm)⟩
theorem Came.new (C : Came P X w0 g0 g gE fc fn st stx u a w w' l ts all dst obs ds us) : ∀ m, m ∈ newM fc st l dst → (m ∈ (callM P fc st l ts all).filterMap id ∨ st.tk.getD m none = none) ∧ m < st.tk.length ∧ m ∉ st.protT := fun m hm => by
  unfold newM at hm
  rcases List.mem_append.1 hm with hm | hm
  · have := List.all_eq_true.1 C.af m hm
    unfold okAfter at this
    simp only [Bool.or_eq_true, Bool.and_eq_true, decide_eq_true_eq] at this
    rcases this with h | ⟨⟨h1, h2⟩, h3⟩
    · have h : m ∈ (callM P fc st l ts all).filterMap id := by simpa using h
      obtain ⟨h1, h2⟩ := C.marks m h
      refine ⟨.inl h, ?_, h2⟩
      have := liveTk_iff.1 h1
      exact getD_lt (z := none) (by rw [this]; simp)
    · refine ⟨.inr ?_, h1, by simpa using h3⟩
      rw [List.getD_eq_getElem?_getD, List.getElem?_eq_getElem h1] at h2 ⊢
      simpa using h2
  · split at hm
    · cases hm
    · rename_i ho
      rw [List.mem_singleton] at hm
      subst hm
      have h := C.own
      unfold ownOk at h
      split at h
      · rename_i he; rw [he] at ho; exact absurd rfl ho
      · obtain ⟨h1, h2, h3⟩ := freeTk_spec h
        exact ⟨.inr h2, h1, h3⟩
      · cases h
theorem Came.known (C : Came P X w0 g0 g gE fc fn st stx u a w w' l ts all dst obs ds us) {k : Nat} (m : Nat) : liveTk (clMid fc st l ((callM P fc st l ts all).filterMap id) dst k ds) m = true ↔ m ∈ newM fc st l dst ∨ (m ∉ (callM P fc st l ts all).filterMap id ∧ liveTk st m = true) := by
  rw [liveTk_iff, clMid_tk, dropAll_tk]
  by_cases h : m ∈ newM fc st l dst
  · rw [if_pos ⟨h, (C.new m h).2.1⟩]
    exact ⟨fun _ => .inl h, fun _ => rfl⟩
  · rw [if_neg (fun h' => h h'.1)]
    by_cases h2 : m ∈ (callM P fc st l ts all).filterMap id
    · have hlt : m < st.tk.length := getD_lt (z := none) (by rw [liveTk_iff.1 (C.marks m h2).1]; simp)
      rw [if_pos ⟨h2, hlt⟩]
      exact ⟨fun h => (by cases h), fun h' => (h'.resolve_left h).1 h2 |>.elim⟩
    · rw [if_neg (fun h => h2 h.1), ← liveTk_iff]
      exact ⟨fun h => .inr ⟨h2, h⟩, fun h' => (h'.resolve_left h).2⟩
theorem Came.new_out (C : Came P X w0 g0 g gE fc fn st stx u a w w' l ts all dst obs ds us) {m k : Nat} (hm : m ∈ newM fc st l dst) (hk : (g.own k).isTk m) : ownC l (callM P fc st l ts all) (g.own k) ≠ .dat := by
  rcases (C.new m hm).1 with h | h
  · exact ownC_in C.pre.once hk h
  · have := liveTk_iff.1 (C.rel.tkl k m hk)
    rw [h] at this
    cases this
theorem Came.rho (C : Came P X w0 g0 g gE fc fn st stx u a w w' l ts all dst obs ds us) {q m : Nat} (h : (newM fc st l dst)[q]? = some m) : (ghoB l (callM P fc st l ts all) (newM fc st l dst) g gE).rho m = gE.rho q := by
  have : idxM m 0 ((newM fc st l dst).map some) = some q := idxM_at (by rw [map_some_id]; exact C.nm) (by rw [List.getElem?_map, h]; rfl)
  show (match idxM m 0 ((newM fc st l dst).map some) with | some q => gE.rho q | none => g.rho m) = _
  rw [this]
theorem Came.rho' (C : Came P X w0 g0 g gE fc fn st stx u a w w' l ts all dst obs ds us) {m : Nat} (h : m ∉ newM fc st l dst) : (ghoB l (callM P fc st l ts all) (newM fc st l dst) g gE).rho m = g.rho m := by
  have : idxM m 0 ((newM fc st l dst).map some) = none := by
    cases hi : idxM m 0 ((newM fc st l dst).map some) with
    | none => rfl
    | some q =>
      obtain ⟨i, _, h2⟩ := idxM_some hi
      have := nodup_mem h2
      rw [map_some_id] at this
      exact absurd this h
  show (match idxM m 0 ((newM fc st l dst).map some) with | some q => gE.rho q | none => g.rho m) = _
  rw [this]
/-- What did not go along has stayed. -/
theorem Came.stays (C : Came P X w0 g0 g gE fc fn st stx u a w w' l ts all dst obs ds us) {k : Nat} (hc : ownC l (callM P fc st l ts all) (g.own k) = .dat) (hd : g.own k ≠ .dat) :
    w'.heap[k]? = w.heap[k]? ∧ gE.own k = .dat ∧ (ghoB l (callM P fc st l ts all) (newM fc st l dst) g gE).own k = g.own k := by
  have h1 := C.out.fr.old k (C.rel.fr.lt k hd) (by show Gh.fx _ _ (ownC l _ (g.own k)); rw [hc]; trivial)
  have h2 : gE.own k = .dat := h1.2.trans hc
  refine ⟨h1.1, h2, ?_⟩
  show ownB l _ _ (g.own k) (gE.own k) = _
  rw [h2]
  unfold ownB
  simp only [hc]
theorem Came.old (C : Came P X w0 g0 g gE fc fn st stx u a w w' l ts all dst obs ds us) {k : Nat} (hk : k < w.heap.size) (hc : ownC l (callM P fc st l ts all) (g.own k) = .dat) :
    w'.heap[k]? = w.heap[k]? ∧ gE.own k = .dat ∧ (ghoB l (callM P fc st l ts all) (newM fc st l dst) g gE).own k = g.own k := by
  have h1 := C.out.fr.old k hk (by show Gh.fx _ _ (ownC l _ (g.own k)); rw [hc]; trivial)
  have h2 : gE.own k = .dat := h1.2.trans hc
  refine ⟨h1.1, h2, ?_⟩
  show ownB l _ _ (g.own k) (gE.own k) = _
  rw [h2]
  unfold ownB
  simp only [hc]
theorem Came.stay2 (C : Came P X w0 g0 g gE fc fn st stx u a w w' l ts all dst obs ds us) : Stay w' (Wr (calleeX P fc st X g l ts all) gE) w' (Wr X (ghoB l (callM P fc st l ts all) (newM fc st l dst) g gE)) := fun bb o v hc hw => ⟨hc, fun h => by
  apply hw
  rcases h with h | h
  · have h1 := C.rel.xown bb o h
    exact .inl ⟨.inl h, by rw [h1]; rfl⟩
  · have h : (ownB l (callM P fc st l ts all) (newM fc st l dst) (g.own bb) (gE.own bb)).at o := h
    rcases ownB_cases l (callM P fc st l ts all) (newM fc st l dst) (g.own bb) (gE.own bb) with h1 | ⟨h1, h2, h3⟩ | ⟨p, h1, h2, h3⟩ | ⟨q, m, h1, ⟨s, h2, h3⟩ | ⟨h2, h3⟩⟩
    · rw [h1] at h; exact h.elim
    · rw [h3] at h; exact .inl ⟨.inr h, h2⟩
    · exact .inr (by rw [h1]; trivial)
    · rw [h3] at h; exact .inr (by rw [h2]; exact h)
    · exact .inr (by rw [h2]; trivial)⟩
theorem Came.stay (C : Came P X w0 g0 g gE fc fn st stx u a w w' l ts all dst obs ds us) : Stay w (Wr X g) w' (Wr X (ghoB l (callM P fc st l ts all) (newM fc st l dst) g gE)) :=
  ((calleeStay a w).trans (stay_fr C.out.fr C.out.xown)).trans C.stay2
theorem Came.tk (C : Came P X w0 g0 g gE fc fn st stx u a w w' l ts all dst obs ds us) {m k : Nat} (h : ((ghoB l (callM P fc st l ts all) (newM fc st l dst) g gE).own k).isTk m) :
    (ownC l (callM P fc st l ts all) (g.own k) = .dat ∧ gE.own k = .dat ∧ (ghoB l (callM P fc st l ts all) (newM fc st l dst) g gE).own k = g.own k ∧ m ∉ newM fc st l dst) ∨
    ∃ q, (newM fc st l dst)[q]? = some m ∧ ((∃ s, gE.own k = .tl q s ∧ (ghoB l (callM P fc st l ts all) (newM fc st l dst) g gE).own k = .tl m s) ∨ (gE.own k = .rw q ∧ (ghoB l (callM P fc st l ts all) (newM fc st l dst) g gE).own k = .rw m)) := by
  have h : (ownB l (callM P fc st l ts all) (newM fc st l dst) (g.own k) (gE.own k)).isTk m := h
  rcases ownB_cases l (callM P fc st l ts all) (newM fc st l dst) (g.own k) (gE.own k) with h1 | ⟨h1, h2, h3⟩ | ⟨p, h1, h2, h3⟩ | ⟨q, m', h1, ⟨s, h2, h3⟩ | ⟨h2, h3⟩⟩
  · rw [h1] at h; rcases h with ⟨_, h⟩ | h <;> cases h
  · rw [h3] at h
    exact .inl ⟨h2, h1, h3, fun hm => C.new_out hm h h2⟩
  · rw [h3] at h; rcases h with ⟨_, h⟩ | h <;> cases h
  · rw [h3] at h
    rcases h with ⟨_, h⟩ | h
    · cases h; exact .inr ⟨q, h1, .inl ⟨s, h2, h3⟩⟩
    · cases h
  · rw [h3] at h
    rcases h with ⟨_, h⟩ | h
    · cases h
    · cases h; exact .inr ⟨q, h1, .inr ⟨h2, h3⟩⟩
/-- What the callee owned with a mark. -/
theorem Came.own_tl (C : Came P X w0 g0 g gE fc fn st stx u a w w' l ts all dst obs ds us) {q m k s : Nat} (h : (newM fc st l dst)[q]? = some m) (hk : gE.own k = .tl q s) : (ghoB l (callM P fc st l ts all) (newM fc st l dst) g gE).own k = .tl m s := by
  show ownB l _ _ (g.own k) (gE.own k) = _
  rw [hk]
  unfold ownB
  simp only [h]
theorem Came.own_rw (C : Came P X w0 g0 g gE fc fn st stx u a w w' l ts all dst obs ds us) {q m k : Nat} (h : (newM fc st l dst)[q]? = some m) (hk : gE.own k = .rw q) : (ghoB l (callM P fc st l ts all) (newM fc st l dst) g gE).own k = .rw m := by
  show ownB l _ _ (g.own k) (gE.own k) = _
  rw [hk]
  unfold ownB
  simp only [h]
theorem Came.new_inj (C : Came P X w0 g0 g gE fc fn st stx u a w w' l ts all dst obs ds us) {q q' m : Nat} (h : (newM fc st l dst)[q]? = some m) (h' : (newM fc st l dst)[q']? = some m) : q = q' := by
  have e : ∀ q, (newM fc st l dst)[q]? = some m → ((newM fc st l dst).map some)[q]? = some (some m) := fun q h => by rw [List.getElem?_map, h]; rfl
  exact nodup_inj (by rw [map_some_id]; exact C.nm) (e q h) (e q' h')
theorem Came.rw_iff (C : Came P X w0 g0 g gE fc fn st stx u a w w' l ts all dst obs ds us) {q m k : Nat} (h : (newM fc st l dst)[q]? = some m) (hk : (ghoB l (callM P fc st l ts all) (newM fc st l dst) g gE).own k = .rw m) : gE.own k = .rw q := by
  rcases C.tk (.inr hk) with ⟨_, _, _, h1⟩ | ⟨q', h1, ⟨s, _, h2⟩ | ⟨h2, _⟩⟩
  · exact absurd (List.mem_of_getElem? h) h1
  · rw [hk] at h2; cases h2
  · rw [C.new_inj h h1]; exact h2
theorem Came.tl_iff (C : Came P X w0 g0 g gE fc fn st stx u a w w' l ts all dst obs ds us) {q m k s : Nat} (h : (newM fc st l dst)[q]? = some m) (hk : (ghoB l (callM P fc st l ts all) (newM fc st l dst) g gE).own k = .tl m s) : gE.own k = .tl q s := by
  rcases C.tk (.inl ⟨s, hk⟩) with ⟨_, _, _, h1⟩ | ⟨q', h1, ⟨s', h2, h3⟩ | ⟨_, h2⟩⟩
  · exact absurd (List.mem_of_getElem? h) h1
  · rw [hk] at h3; cases h3; rw [C.new_inj h h1]; exact h2
  · rw [hk] at h2; cases h2
/-- The marks that come back are alive at the callee's end. -/
theorem Came.liveU (C : Came P X w0 g0 g gE fc fn st stx u a w w' l ts all dst obs ds us) {q m : Nat} (h : (newM fc st l dst)[q]? = some m) : liveTk u q = true := by
  rw [liveTk_iff, C.uis]
  show (unT (finI fc fn obs.length).toks _).tk.getD q none = _
  rw [unT_tk, if_pos]
  have hq : q < (newM fc st l dst).length := (List.getElem?_eq_some_iff.1 h).1
  refine ⟨?_, ?_⟩
  · show q ∈ (insToks 0 fc.ins ++ ownToks fc.ins.length fc.own).map (·.2.2.2)
    unfold newM at hq
    rw [List.length_append, marksAfter_length] at hq
    by_cases hi : q < fc.ins.length
    · refine List.mem_map.2 ⟨(fc.ins[q].1, some fc.ins[q].2.1, fc.ins[q].2.2, q), List.mem_append_left _ (insToks_mem.2 ⟨q, _, _, _, List.getElem?_eq_getElem hi, by rw [Nat.zero_add]; rfl⟩), rfl⟩
    · have hne : fc.own.isEmpty = false := by
        cases ho : fc.own.isEmpty with
        | false => rfl
        | true => rw [if_pos ho] at hq; simp at hq; omega
      rw [hne] at hq
      simp at hq
      have hqe : q = fc.ins.length := by omega
      subst hqe
      cases ho : fc.own with
      | nil => rw [ho] at hne; cases hne
      | cons x r => exact List.mem_map.2 ⟨(x.1, none, x.2, fc.ins.length), List.mem_append_right _ (ownToks_mem.2 ⟨x.1, x.2, List.mem_cons_self, rfl⟩), rfl⟩
  · show q < (finB fc fn obs).tk.length
    show q < (repA none (fc.ins.length + fc.argArr.length) ++ repA none (fn.ntmps + 32)).length
    rw [List.length_append, length_repA, length_repA]
    unfold newM at hq
    rw [List.length_append, marksAfter_length] at hq
    have : (if fc.own.isEmpty = true then ([] : List Nat) else [st.tb + dst.getD 0]).length ≤ 1 := by split <;> simp
    omega
/-- A cell that is owned, on its way back. -/
theorem Came.ra (C : Came P X w0 g0 g gE fc fn st stx u a w w' l ts all dst obs ds us) {n q m : Nat} {bb : Bool} {k : LK} {d : D} {v : Value} (h : (newM fc st l dst)[q]? = some m) (hra : RA P (calleeX P fc st X g l ts all) gE u w' k d (mkAp bb q) v) :
    RA P X (ghoB l (callM P fc st l ts all) (newM fc st l dst) g gE) (clMid fc st l ((callM P fc st l ts all).filterMap id) dst n ds) w' k d (mkAp bb m) v := by
  have hl := C.liveU h
  have hkn : knownTk (clMid fc st l ((callM P fc st l ts all).filterMap id) dst n ds) m := by
    have := liveTk_iff.1 ((C.known (k := n) m).2 (.inl (List.mem_of_getElem? h)))
    unfold knownTk
    rw [this]
    rfl
  refine ⟨hra.1, ?_⟩
  have h2 := hra.2
  cases bb with
  | false =>
    obtain ⟨h3, h4, h5⟩ := h2
    obtain ⟨h6, e, s, h7, h8, h9⟩ := h5 hl
    exact ⟨h3.mono C.stay2, hkn, fun _ => ⟨fun kk hkk => h6 kk (C.rw_iff h hkk), e, s, h7, h8, (C.rho h).trans h9⟩⟩
  | true =>
    obtain ⟨h3, h4⟩ := h2
    obtain ⟨h5, e, s, p, nn, c, bb, o, uu, r1, r2, r3, r4, r5, r6, r7, r8, r9, r10⟩ := h4 hl
    exact ⟨hkn, fun _ => ⟨fun kk s' hkk => h5 kk s' (C.tl_iff h hkk), e, s, p, nn, c, bb, o, uu, r1, r2, r3, (C.rho h).trans r4, r5, r6, r7, fun h0 => ⟨(r8 h0).1, C.own_rw h (r8 h0).2⟩, r9, fun i j kk hi hj => (r10 i j kk hi hj).mono C.stay2⟩⟩
end
end Go.Proofs.Ytkimdfpmblhapaa.Va

/- Calls: the state behind a call, all of it. -/
set_option linter.unusedVariables false
set_option linter.unusedSimpArgs false
namespace Go.Proofs.Ytkimdfpmblhapaa.Va
open Go.RowKit

theorem unT_hp_out (n : Nat) (toks : List Tok) (st : St) (h : ∀ j b m, (n, some j, b, m) ∉ toks) : (unT toks st).hp.getD n none = st.hp.getD n none := by
  have h1 := unT_hp n toks st
  cases ho : st.hp.getD n none with
  | none => rw [ho] at h1; exact h1
  | some o =>
    rw [ho] at h1
    cases o with
    | map k v d => exact h1
    | cells s d aps =>
      obtain ⟨aps', h2, h3, h4⟩ := h1
      rw [h2, ext_getD h3 (fun j => by
        rcases h4 j with h5 | ⟨b, m, h5, _⟩
        · exact h5.2
        · exact absurd h5 (h j b m))]
theorem unT_has (n : Nat) (toks : List Tok) (st : St) : (unT toks st).has n = st.has n := by
  have h1 := unT_hp n toks st
  unfold St.has
  cases ho : st.hp.getD n none with
  | none => rw [ho] at h1; rw [h1]
  | some o =>
    rw [ho] at h1
    cases o with
    | map k v d => rw [h1]
    | cells s d aps =>
      obtain ⟨aps', h2, _⟩ := h1
      rw [h2]
      rfl
section
variable {P : Program} {cfs : FuncId → Nat → FCfg} {fc : FCfg} {env : Env} {X X' : Nat → Nat → Prop} {w0 : World} {g0 g g' gc gE : Gho} {st st' b u stx : St} {a a' : Act} {w w' : World} {l : List Nat} {ts : List TypeId} {all : List AV}
variable {fn : Func} {dst : Option Tmp} {obs : List Ob} {ds : List D} {us : Array Value}
/-- Marks are of cells that the callee may write. -/
theorem Came.tokp (C : Came P X w0 g0 g gE fc fn st stx u a w w' l ts all dst obs ds us) {n j m : Nat} {bb : Bool} (h : (n, some j, bb, m) ∈ backToks l fc.ins (marksAfter st l st.tk fc.ins)) :
    ∃ q p : Nat, fc.ins[q]? = some (p, j, bb) ∧ (newM fc st l dst)[q]? = some m ∧ l[p]? = some n ∧ p ∉ fc.roIn := by
  obtain ⟨q, p, j', b', m', h1, h2, h3⟩ := (backToks_mem l).1 h
  injection h3 with h3 h4
  injection h4 with h4 h5
  injection h5 with h5 h6
  injection h4 with h4
  subst h4
  subst h5
  subst h6
  obtain ⟨h7, h8⟩ := C.pre.ro _ (List.mem_of_getElem? h1)
  refine ⟨q, p, h1, ?_, ?_, h7⟩
  · unfold newM
    rw [List.getElem?_append_left (List.getElem?_eq_some_iff.1 h2).1]
    exact h2
  · rw [h3, List.getElem?_eq_getElem h8]
    simp [List.getD_eq_getElem?_getD, List.getElem?_eq_getElem h8]
/-- A variable that did not go along, or that is only read, is as it was. -/
theorem Came.hp_out (C : Came P X w0 g0 g gE fc fn st stx u a w w' l ts all dst obs ds us) {n k : Nat} (h : ∀ p : Nat, l[p]? = some n → p ∈ fc.roIn) :
    (clMid fc st l ((callM P fc st l ts all).filterMap id) dst k ds).hp.getD n none = dropOb ((callM P fc st l ts all).filterMap id) (st.hp.getD n none) := by
  rw [clMid_hp, unT_hp_out n _ _ (fun j bb m hm => by
    obtain ⟨q, p, _, _, h3, h4⟩ := C.tokp hm
    exact h4 (h p h3))]
  show (backObs fc.roIn (ds.drop k) l 0 0 (dropAll st _).hp).getD n none = _
  obtain ⟨h1, h2⟩ := backObs_spec fc.roIn (ds.drop k) l 0 0 (dropAll st ((callM P fc st l ts all).filterMap id)).hp C.pre.nd
  rw [← dropAll_hp]
  by_cases hn : n ∈ l
  · obtain ⟨p, hp⟩ := mem_getElem hn
    exact (h2 p n hp).1 (by rw [Nat.zero_add]; simpa using h p hp)
  · exact h1 n hn
theorem Came.has (C : Came P X w0 g0 g gE fc fn st stx u a w w' l ts all dst obs ds us) {n k : Nat} :
    (clMid fc st l ((callM P fc st l ts all).filterMap id) dst k ds).has n = st.has n := by
  have h0 : (dropOb ((callM P fc st l ts all).filterMap id) (st.hp.getD n none)).isSome = (st.hp.getD n none).isSome := by
    cases st.hp.getD n none with
    | none => rfl
    | some o => cases o <;> rfl
  have h1 : (clMid fc st l ((callM P fc st l ts all).filterMap id) dst k ds).has n = ((backObs fc.roIn (ds.drop k) l 0 0 (dropAll st ((callM P fc st l ts all).filterMap id)).hp).getD n none).isSome := by
    have := unT_has n (backToks l fc.ins (marksAfter st l st.tk fc.ins)) { dropAll st ((callM P fc st l ts all).filterMap id) with hp := backObs fc.roIn (ds.drop k) l 0 0 (dropAll st ((callM P fc st l ts all).filterMap id)).hp }
    unfold St.has at this ⊢
    rw [clMid_hp]
    exact this
  rw [h1]
  obtain ⟨h2, h3⟩ := backObs_spec fc.roIn (ds.drop k) l 0 0 (dropAll st ((callM P fc st l ts all).filterMap id)).hp C.pre.nd
  show _ = (st.hp.getD n none).isSome
  rw [← h0, ← dropAll_hp]
  by_cases hn : n ∈ l
  · obtain ⟨p, hp⟩ := mem_getElem hn
    cases hc : fc.roIn.contains (0 + p) with
    | true => rw [(h3 p n hp).1 hc]
    | false =>
      obtain ⟨idx, _, h4⟩ := (h3 p n hp).2 hc
      rw [h4]
      cases (dropAll st ((callM P fc st l ts all).filterMap id)).hp.getD n none with
      | none => rfl
      | some o => cases o <;> rfl
  · rw [h2 n hn]
theorem Came.mu (C : Came P X w0 g0 g gE fc fn st stx u a w w' l ts all dst obs ds us) {n p : Nat} (h : l[p]? = some n) : gE.mu p = g.mu n := by
  have hsu := un_same P (finI fc fn obs.length) (finB fc fn obs) ds
  rw [← C.uis] at hsu
  have hpl : p < obs.length := by rw [(renObs_spec C.robs).1]; exact (List.getElem?_eq_some_iff.1 h).1
  have := C.out.fr.mu p (.inl (by rw [hsu.nb]; exact hpl))
  rw [this]
  show g.mu (l.getD p 0) = _
  rw [getD_of h]
theorem Came.to (C : Came P X w0 g0 g gE fc fn st stx u a w w' l ts all dst obs ds us) (n : Nat) :
    To P X g (stMid st ((callM P fc st l ts all).filterMap id)) w (ghoB l (callM P fc st l ts all) (newM fc st l dst) g gE) (clMid fc st l ((callM P fc st l ts all).filterMap id) dst n ds) w' := by
  have hnn : ∀ m, knownTk (stMid st ((callM P fc st l ts all).filterMap id)) m → m ∉ newM fc st l dst := fun m hk hm => by
    obtain ⟨h1, h2⟩ := (mid_known _ m).1 hk
    rcases (C.new m hm).1 with h | h
    · exact h1 h
    · unfold knownTk at h2
      rw [h] at h2
      cases h2
  refine ⟨C.stay, fun _ _ => rfl, fun n hn => ?_, fun m hm => ?_, fun m hm hl => ?_, fun k m hk hm hl => ?_, fun k m hm hl hk => ?_⟩
  · rw [C.has]; rwa [mid_has] at hn
  · obtain ⟨h1, h2⟩ := (mid_known _ m).1 hm
    unfold knownTk at h2 ⊢
    rw [clMid_tk]
    split
    · rfl
    · rw [dropAll_tk, if_neg (fun h => h1 h.1)]
      exact h2
  · have h1 := ((C.known m).1 hl).resolve_left (hnn m hm)
    exact ⟨(mid_live _ m).2 h1, C.rho' (hnn m hm)⟩
  · obtain ⟨h1, h2⟩ := (mid_known _ m).1 hm
    obtain ⟨h3, _, h4⟩ := C.stays (ownC_out (.inr hk) h1) (by rw [hk]; simp)
    exact ⟨h3, h4.trans hk⟩
  · rcases C.tk hk with ⟨_, _, h1, _⟩ | ⟨q, h1, _⟩
    · exact h1
    · exact absurd (List.mem_of_getElem? h1) (hnn m hm)
/-- A variable behind the call. -/
theorem Came.obj (C : Came P X w0 g0 g gE fc fn st stx u a w w' l ts all dst obs ds us) {n : Nat} {o : Ob} (ho : (clMid fc st l ((callM P fc st l ts all).filterMap id) dst fn.resultTypes.toList.length ds).hp.getD n none = some o) :
    RO P X (ghoB l (callM P fc st l ts all) (newM fc st l dst) g gE) (clMid fc st l ((callM P fc st l ts all).filterMap id) dst fn.resultTypes.toList.length ds) w' n o := by
  have ht := C.to fn.resultTypes.toList.length
  have hk : ∀ m, m ∉ (callM P fc st l ts all).filterMap id → knownTk st m → knownTk (stMid st ((callM P fc st l ts all).filterMap id)) m := fun m h1 h2 => (mid_known _ m).2 ⟨h1, h2⟩
  have hl : ∀ m, liveTk (stMid st ((callM P fc st l ts all).filterMap id)) m = true → liveTk st m = true := fun m h => ((mid_live _ m).1 h).2
  have hsu := un_same P (finI fc fn obs.length) (finB fc fn obs) ds
  rw [← C.uis] at hsu
  by_cases hro : ∀ p : Nat, l[p]? = some n → p ∈ fc.roIn
  · -- as it was
    rw [C.hp_out hro] at ho
    cases ho0 : st.hp.getD n none with
    | none => rw [ho0] at ho; cases ho
    | some o0 =>
      rw [ho0] at ho
      have hr0 := C.rel.objs n o0 ho0
      have hn : st.has n = true := by unfold St.has; rw [ho0]; rfl
      have h1 := ro_drop (b := stMid st ((callM P fc st l ts all).filterMap id)) hr0 ho (fun k hkk => by
        rw [mid_has]
        refine ro_names hr0 k ?_
        cases o0 with
        | map _ _ _ => cases ho; exact hkk
        | cells s d aps =>
          cases ho
          obtain ⟨j, x, h2, h3⟩ := apNames_get hkk
          rw [List.getElem?_map, Option.map_eq_some_iff] at h2
          obtain ⟨y, h4, h5⟩ := h2
          have : y = .x x := by
            cases y with
            | x v => exact h5
            | own m => unfold dropAp at h5; simp only at h5; split at h5 <;> cases h5
            | arr m => unfold dropAp at h5; simp only at h5; split at h5 <;> cases h5
            | _ => cases h5
          subst this
          exact apNames_at (getD_of h4) h3) hk hl
      have hown := obj_own hr0
      refine h1.to ht (by rw [mid_has]; exact hn) ?_ ?_
      · by_cases hnl : n ∈ l
        · obtain ⟨p, hp⟩ := mem_getElem hnl
          refine (C.out.fr.old (g.mu n) (C.rel.fr.lt _ (by rw [hown]; simp)) ?_).1
          show Gh.fx u.prot u.protT (ownC l _ (g.own (g.mu n)))
          rw [hown, hsu.prot]
          show Gh.fx _ _ (if n ∈ l then Gh.ob (posOf l n) else .dat)
          rw [if_pos hnl, posOf_nodup C.pre.nd hp]
          exact hro p hp
        · exact (C.stays (by rw [hown]; exact if_neg hnl) (by rw [hown]; simp)).1
      · by_cases hnl : n ∈ l
        · obtain ⟨p, hp⟩ := mem_getElem hnl
          have h2 := (C.out.fr.old (g.mu n) (C.rel.fr.lt _ (by rw [hown]; simp)) (by
            show Gh.fx u.prot u.protT (ownC l _ (g.own (g.mu n)))
            rw [hown, hsu.prot]
            show Gh.fx _ _ (if n ∈ l then Gh.ob (posOf l n) else .dat)
            rw [if_pos hnl, posOf_nodup C.pre.nd hp]
            exact hro p hp)).2
          have h3 : gE.own (g.mu n) = .ob p := by
            rw [h2]
            show ownC l _ (g.own (g.mu n)) = _
            rw [hown]
            show (if n ∈ l then Gh.ob (posOf l n) else .dat) = _
            rw [if_pos hnl, posOf_nodup C.pre.nd hp]
          show ownB l _ _ (g.own (g.mu n)) (gE.own (g.mu n)) = _
          rw [h3, hown]
          show (if p < l.length then Gh.ob (l.getD p 0) else .dat) = _
          rw [if_pos (List.getElem?_eq_some_iff.1 hp).1, getD_of hp]
        · exact (C.stays (by rw [hown]; exact if_neg hnl) (by rw [hown]; simp)).2.2
  · -- it went along
    obtain ⟨p, hp, hpr⟩ : ∃ p : Nat, l[p]? = some n ∧ p ∉ fc.roIn := by
      apply Classical.byContradiction
      intro h
      exact hro fun p hp => Classical.byContradiction fun h2 => h ⟨p, hp, h2⟩
    have hpl : p < l.length := (List.getElem?_eq_some_iff.1 hp).1
    have hnl : n ∈ l := List.mem_of_getElem? hp
    obtain ⟨hol, hos⟩ := renObs_spec C.robs
    obtain ⟨oc, hoc, hren⟩ := hos p n hp
    rw [Nat.zero_add] at hren
    have hmu := C.mu hp
    have hcon : fc.roIn.contains p = false := by simpa using hpr
    have hGob : gE.own (g.mu n) = .ob p → (ghoB l (callM P fc st l ts all) (newM fc st l dst) g gE).own (g.mu n) = .ob n := fun h3 => by
      show ownB l _ _ (g.own (g.mu n)) (gE.own (g.mu n)) = _
      rw [h3]
      show (if p < l.length then Gh.ob (l.getD p 0) else .dat) = _
      rw [if_pos hpl, getD_of hp]
    -- what the callee says
    have hfin : (finB fc fn obs).hp.getD p none = (dropOb (upto (fc.ins.length + fc.argArr.length)) (some oc)).map blank := by
      show (finHp fc.roIn _ 0 obs ++ repA none fn.ntmps).getD p none = _
      rw [getD_app, if_pos (by rw [length_finHp]; omega), finHp_getD, hoc]
      simp only [Nat.zero_add, hcon]
      rfl
    have hpo : p ∈ (finI fc fn obs.length).objs := by
      show p ∈ (upto obs.length).filter (notIn fc.roIn)
      exact List.mem_filter.2 ⟨mem_upto.2 (by omega), by simpa [notIn] using hpr⟩
    obtain ⟨idx, hidx, hun⟩ := (unO_getD p (finI fc fn obs.length).objs ds (finI fc fn obs.length).slots.length (finB fc fn obs).hp C.pk.objs).resolve_left (fun h => h.1 hpo)
    have hslen : (finI fc fn obs.length).slots.length = fn.resultTypes.toList.length := by
      show (finSlots 0 fn.resultTypes.toList).length = _
      have : ∀ (ts : List TypeId) (k : Nat), (finSlots k ts).length = ts.length := by
        intro ts
        induction ts with
        | nil => intro k; rfl
        | cons t r ih => intro k; simp [finSlots, ih]
      exact this _ _
    obtain ⟨_, hbo⟩ := backObs_spec fc.roIn (ds.drop fn.resultTypes.toList.length) l 0 0 (dropAll st ((callM P fc st l ts all).filterMap id)).hp C.pre.nd
    obtain ⟨idx', hidx', hback⟩ := (hbo p n hp).2 (by rw [Nat.zero_add]; exact hcon)
    have hii : idx' = idx := by
      rw [Nat.zero_add, ← hol, ← upto_fromTo] at hidx'
      exact (posOf_nodup C.pk.objs hidx').symm.trans (posOf_nodup C.pk.objs hidx)
    subst hii
    have hdd : (ds.drop fn.resultTypes.toList.length).getD (0 + idx') (.int 0) = ds.getD ((finI fc fn obs.length).slots.length + idx') (.int 0) := by
      rw [hslen, Nat.zero_add, List.getD_eq_getElem?_getD, List.getD_eq_getElem?_getD, List.getElem?_drop]
    rw [hdd, dropAll_hp] at hback
    generalize hdk : ds.getD ((finI fc fn obs.length).slots.length + idx') (.int 0) = dk at hun hback
    have hu1 := unT_hp p (finI fc fn obs.length).toks { finB fc fn obs with fr := unS P (finI fc fn obs.length).slots ds 0 (finB fc fn obs).fr, hp := unO (finI fc fn obs.length).objs ds (finI fc fn obs.length).slots.length (finB fc fn obs).hp }
    have huu : u.hp = (unT (finI fc fn obs.length).toks { finB fc fn obs with fr := unS P (finI fc fn obs.length).slots ds 0 (finB fc fn obs).fr, hp := unO (finI fc fn obs.length).objs ds (finI fc fn obs.length).slots.length (finB fc fn obs).hp }).hp := by rw [C.uis]; rfl
    rw [← huu] at hu1
    simp only at hu1
    rw [hun, hfin] at hu1
    rw [clMid_hp] at ho
    have ho1 := unT_hp n (backToks l fc.ins (marksAfter st l st.tk fc.ins)) { dropAll st ((callM P fc st l ts all).filterMap id) with hp := backObs fc.roIn (ds.drop fn.resultTypes.toList.length) l 0 0 (dropAll st ((callM P fc st l ts all).filterMap id)).hp }
    simp only at ho1
    rw [hback] at ho1
    cases ho0 : st.hp.getD n none with
    | none => rw [ho0] at ho1; rw [show (unT _ _).hp.getD n none = none from ho1] at ho; cases ho
    | some o0 =>
      rw [ho0] at ho1 hren
      cases o0 with
      | map kt vt d =>
        cases hren
        have ho1 : (unT (backToks l fc.ins (marksAfter st l st.tk fc.ins)) { dropAll st ((callM P fc st l ts all).filterMap id) with hp := backObs fc.roIn (ds.drop fn.resultTypes.toList.length) l 0 0 (dropAll st ((callM P fc st l ts all).filterMap id)).hp }).hp.getD n none = some (.map kt vt dk) := ho1
        rw [ho1] at ho
        cases ho
        have hu1 : u.hp.getD p none = some (.map kt vt dk) := hu1
        obtain ⟨es, clock, k, sv, e1, e2, e3, e4, e5, e6⟩ := C.out.objs p _ hu1
        rw [hmu] at e1 e2
        refine ⟨es, clock, k, sv, e1, hGob e2, e3, e4, e5, fun i x hx => ?_⟩
        obtain ⟨q, e7, e8, e9, e10⟩ := e6 i x hx
        refine ⟨q, e7, e8.mono C.stay2, e9, e10.len, e10.lap, fun j kk hj => ?_⟩
        have h10 := e10.at_ j kk hj
        rw [roAps_getD _ _ (List.getElem?_eq_some_iff.1 hj).1] at h10 ⊢
        exact ⟨h10.1, h10.2.mono C.stay2⟩
      | cells s d aps =>
        cases hren
        obtain ⟨apsC, hu2, hu3, hu4⟩ := hu1
        obtain ⟨aps4, ho2, ho3, ho4⟩ := ho1
        rw [show (unT (backToks l fc.ins (marksAfter st l st.tk fc.ins)) { dropAll st ((callM P fc st l ts all).filterMap id) with hp := backObs fc.roIn (ds.drop fn.resultTypes.toList.length) l 0 0 (dropAll st ((callM P fc st l ts all).filterMap id)).hp }).hp.getD n none = _ from ho2] at ho
        cases ho
        obtain ⟨cs, e, e1, e2, e3, e4⟩ := C.out.objs p _ hu2
        rw [hmu] at e1 e2
        have hlap : aps.length = s.ks.length := by
          obtain ⟨_, _, _, _, _, h⟩ := C.rel.objs n _ ho0
          exact h.lap
        refine ⟨cs, e, e1, hGob e2, e3, e4.len, by rw [ho3]; simpa using hlap, fun j k hj => ?_⟩
        have hjl : j < aps.length := by rw [hlap]; exact (List.getElem?_eq_some_iff.1 hj).1
        have hra := e4.at_ j k hj
        rcases ho4 j with ⟨hno, h4⟩ | ⟨bb, m, hmem, h4⟩
        · -- no mark
          have hnoq : renAps.insAt fc.ins 0 p j = none := by
            cases hq : renAps.insAt fc.ins 0 p j with
            | none => rfl
            | some y =>
              obtain ⟨i, hi1, hi2⟩ := insAt_some (q := y.1) (b := y.2) hq
              exfalso
              have him : i < (marksAfter st l st.tk fc.ins).length := by rw [marksAfter_length]; exact (List.getElem?_eq_some_iff.1 hi2).1
              exact hno y.2 _ ((backToks_mem l).2 ⟨i, p, j, y.2, _, hi2, List.getElem?_eq_getElem him, by rw [getD_of hp]⟩)
          have hcc : apsC.getD j .dead = ((match aps.getD j .dead with | .x v => .x (v.ren l) | .dead => .dead | .arr _ => .dead | _ => .ro) : Ap) := by
            rcases hu4 j with ⟨_, h5⟩ | ⟨bb, m, hmem, _⟩
            · rw [h5, List.getD_eq_getElem?_getD, List.getElem?_map, List.getElem?_map, List.getElem?_eq_getElem (by rw [renAps_length]; exact hjl)]
              simp only [Option.map_some, Option.getD_some]
              have h6 := renAps_getD l fc.ins p aps 0 j hjl
              rw [List.getD_eq_getElem?_getD, List.getElem?_eq_getElem (by rw [renAps_length]; exact hjl), Option.getD_some, Nat.zero_add] at h6
              rw [h6]
              unfold renAp
              rw [hnoq]
              cases aps.getD j .dead <;> rfl
            · exfalso
              rcases List.mem_append.1 hmem with hmem | hmem
              · obtain ⟨i, p', j', b', h6, h7⟩ := insToks_mem.1 hmem
                injection h7 with h7 h8
                injection h8 with h8 h9
                injection h8 with h8
                injection h9 with h9 h10
                subst h7
                subst h8
                have him : i < (marksAfter st l st.tk fc.ins).length := by rw [marksAfter_length]; exact (List.getElem?_eq_some_iff.1 h6).1
                exact hno b' _ ((backToks_mem l).2 ⟨i, p, j, b', _, h6, List.getElem?_eq_getElem him, by rw [getD_of hp]⟩)
              · obtain ⟨i, b', _, h7⟩ := ownToks_mem.1 hmem
                injection h7 with h7 h8
                injection h8 with h8 h9
                cases h8
          rw [hcc] at hra
          rw [h4, List.getD_eq_getElem?_getD, List.getElem?_map, List.getElem?_map, List.getElem?_eq_getElem hjl]
          simp only [Option.map_some, Option.getD_some]
          have h7 : aps.getD j .dead = aps[j] := by rw [List.getD_eq_getElem?_getD, List.getElem?_eq_getElem hjl]; rfl
          rw [h7] at hra
          have hxx : ∀ v, aps[j] = .x v → ∀ k ∈ v.names, k ∈ l := fun v hv k hkn => C.pre.reach n hnl k (by
            rw [ho0]
            exact apNames_at (h7.trans hv) hkn)
          cases hap : aps[j] with
          | x v =>
            rw [hap] at hra
            refine ⟨hra.1, ?_⟩
            have hokk : ∀ n', n' ∈ l → (clMid fc st l ((callM P fc st l ts all).filterMap id) dst fn.resultTypes.toList.length ds).has n' = true := fun n' hn' => by
              rw [C.has]
              unfold St.has
              obtain ⟨p', hp'⟩ := mem_getElem hn'
              obtain ⟨_, _, h9⟩ := hos p' n' hp'
              cases hx : st.hp.getD n' none with
              | none => rw [hx] at h9; cases h9
              | some _ => rfl
            exact rx_back (g := ghoB l (callM P fc st l ts all) (newM fc st l dst) g gE) (fun n' hn' => C.mu (posOf_get hn')) hokk hra.2 v rfl (hxx v hap)
          | dead => exact ⟨hra.1, trivial⟩
          | ro => rw [hap] at hra; exact ⟨hra.1, hra.2.mono C.stay2⟩
          | nl => rw [hap] at hra; exact ⟨hra.1, hra.2.mono C.stay2⟩
          | full => rw [hap] at hra; exact ⟨hra.1, hra.2.mono C.stay2⟩
          | own m =>
            rw [hap] at hra
            have : ∀ b : Bool, (match (if b = true then Ap.ro else .own m) with | .nl => Ap.ro | .full => .ro | .own _ => .ro | .arr _ => .dead | a => a) = .ro := fun b => by cases b <;> rfl
            show RA P X _ _ w' k (s.at dk j) (match (if _ = true then Ap.ro else .own m) with | .nl => Ap.ro | .full => .ro | .own _ => .ro | .arr _ => .dead | a => a) _
            rw [this]
            exact ⟨hra.1, hra.2.mono C.stay2⟩
          | arr m =>
            have : ∀ b : Bool, (match (if b = true then Ap.dead else .arr m) with | .nl => Ap.ro | .full => .ro | .own _ => .ro | .arr _ => .dead | a => a) = .dead := fun b => by cases b <;> rfl
            show RA P X _ _ w' k (s.at dk j) (match (if _ = true then Ap.dead else .arr m) with | .nl => Ap.ro | .full => .ro | .own _ => .ro | .arr _ => .dead | a => a) _
            rw [this]
            exact ⟨hra.1, trivial⟩
        · -- a mark
          rw [h4 (by simpa using hjl)]
          obtain ⟨q, p', hq, hnm, hp', _⟩ := C.tokp hmem
          have hpp : p' = p := (posOf_nodup C.pre.nd hp').symm.trans (posOf_nodup C.pre.nd hp)
          subst hpp
          rcases hu4 j with ⟨hno', _⟩ | ⟨bb', m', hmem', h5⟩
          · exact absurd (List.mem_append_left _ (insToks_mem.2 ⟨q, p', j, bb, hq, rfl⟩)) (hno' bb _)
          · rcases List.mem_append.1 hmem' with hmem' | hmem'
            · obtain ⟨i, p2, j2, b2, h6, h7⟩ := insToks_mem.1 hmem'
              injection h7 with h7 h8
              injection h8 with h8 h9
              injection h8 with h8
              injection h9 with h9 h10
              subst h7
              subst h8
              subst h9
              have hqi := nodupP_uniq C.pj hq h6
              subst hqi
              rw [hq] at h6
              cases h6
              rw [h5 (by rw [List.length_map, List.length_map, renAps_length]; exact hjl), h10, Nat.zero_add] at hra
              exact C.ra hnm hra
            · obtain ⟨i, b', _, h7⟩ := ownToks_mem.1 hmem'
              injection h7 with h7 h8
              injection h8 with h8 h9
              cases h8
end
end Go.Proofs.Ytkimdfpmblhapaa.Va

/- Calls go as the functions' numbers say. -/
set_option linter.unusedVariables false
set_option linter.unusedSimpArgs false
namespace Go.Proofs.Ytkimdfpmblhapaa.Va
open Go.RowKit

section
variable {P : Program} {cfs : FuncId → Nat → FCfg} {fc : FCfg} {env : Env} {X X' : Nat → Nat → Prop} {w0 : World} {g0 g g' gc gE : Gho} {st st' b u stx : St} {a a' : Act} {w w' : World} {l : List Nat} {ts : List TypeId} {all : List AV}
variable {fn : Func} {dst : Option Tmp} {obs : List Ob} {ds : List D} {us : Array Value}
theorem Came.back (C : Came P X w0 g0 g gE fc fn st stx u a w w' l ts all dst obs ds us) :
    Rel P X w0 g0 (ghoB l (callM P fc st l ts all) (newM fc st l dst) g gE) (clMid fc st l ((callM P fc st l ts all).filterMap id) dst fn.resultTypes.toList.length ds) a w' := by
  have ht := C.to fn.resultTypes.toList.length
  have hsm := clMid_same (fc := fc) (st := st) (l := l) (ms := (callM P fc st l ts all).filterMap id) (dst := dst) (k := fn.resultTypes.toList.length) (ds := ds)
  have hsu := un_same P (finI fc fn obs.length) (finB fc fn obs) ds
  rw [← C.uis] at hsu
  refine ⟨C.rel.dfr, by rw [hsm.fr]; exact C.rel.siz, fun i => ?_, fun n o ho => C.obj ho, fun m hm => ?_, ?_, C.rel.xlt, fun bb o hx => ?_, fun bb m hb => ?_, fun m hm => ?_⟩
  · rw [clMid_fr, dropAll_fr]
    exact (rv_mid (C.rel.slot i)).to ht
  · -- a mark
    by_cases hn : m ∈ newM fc st l dst
    · obtain ⟨q, hq⟩ := mem_getElem hn
      obtain ⟨p, n, c, h1, h2, h3⟩ := C.out.toks q (C.liveU hq)
      refine ⟨p, n, c, by rw [C.rho hq]; exact h1, h2, ?_⟩
      rw [C.rho hq]
      rcases h3 with ⟨h3, h4⟩ | ⟨bb, cs, e, h3, h4, h5, h6⟩
      · exact .inl ⟨h3, fun kk hkk => h4 kk (C.rw_iff hq hkk)⟩
      · refine .inr ⟨bb, cs, e, h3, h4, h5, ?_⟩
        rcases h6 with h6 | h6
        · exact .inl (C.own_tl hq h6)
        · exact .inr (C.own_rw hq h6)
    · obtain ⟨h1, h2⟩ := ((C.known m).1 hm).resolve_left hn
      refine (C.rel.toks m h2).to' (C.rho' hn) (fun k hk => ?_) (fun k hk => ?_)
      · rcases C.tk (.inr hk) with ⟨_, _, h3, _⟩ | ⟨q, h3, _⟩
        · rw [← h3]; exact hk
        · exact absurd (List.mem_of_getElem? h3) hn
      · obtain ⟨h3, _, h4⟩ := C.stays (k := k) (ownC_out (by rcases hk with ⟨s, hk⟩ | hk; exact .inl ⟨s, hk⟩; exact .inr hk) h1) (by rcases hk with ⟨s, hk⟩ | hk <;> rw [hk] <;> simp)
        exact ⟨h3, h4⟩
  · -- the frame
    rw [hsm.nb, hsm.prot, hsm.protM, hsm.protT]
    have hf := C.rel.fr
    have hE := C.out.fr
    have hold : ∀ k, k < w.heap.size → (g.own k).fx st.prot st.protT → w'.heap[k]? = w.heap[k]? ∧ (ghoB l (callM P fc st l ts all) (newM fc st l dst) g gE).own k = g.own k := fun k hk hfx => by
      by_cases hc : ownC l (callM P fc st l ts all) (g.own k) = .dat
      · obtain ⟨h1, _, h2⟩ := C.old hk hc
        exact ⟨h1, h2⟩
      · cases ho : g.own k with
        | dat => rw [ho] at hc; exact absurd rfl hc
        | tl m s =>
          rw [ho] at hc hfx
          have hm : m ∈ (callM P fc st l ts all).filterMap id := Classical.byContradiction fun h => hc (ownC_out (.inl ⟨s, rfl⟩) h)
          exact absurd hfx (C.marks m hm).2
        | rw m =>
          rw [ho] at hc hfx
          have hm : m ∈ (callM P fc st l ts all).filterMap id := Classical.byContradiction fun h => hc (ownC_out (.inr rfl) h)
          exact absurd hfx (C.marks m hm).2
        | ob n =>
          rw [ho] at hc hfx
          have hnl : n ∈ l := Classical.byContradiction fun h => hc (if_neg h)
          obtain ⟨p, hp⟩ := mem_getElem hnl
          have hoc : ownC l (callM P fc st l ts all) (.ob n) = .ob p := by
            show (if n ∈ l then Gh.ob (posOf l n) else .dat) = _
            rw [if_pos hnl, posOf_nodup C.pre.nd hp]
          have hpr : p ∈ fc.roIn := by
            have key : ∀ (l : List Nat) (q p : Nat), protOk st fc.roIn l q = true → l[p]? = some n → n ∈ st.prot → q + p ∈ fc.roIn := by
              intro l
              induction l with
              | nil => intro q p _ h; simp at h
              | cons x r ih =>
                intro q p h1 h2 h3
                unfold protOk at h1
                simp only [Bool.and_eq_true, Bool.or_eq_true] at h1
                cases p with
                | zero =>
                  simp at h2
                  subst h2
                  rcases h1.1 with h | h
                  · simp at h; exact absurd h3 h
                  · simpa using h
                | succ p =>
                  rw [show q + (p + 1) = q + 1 + p by omega]
                  exact ih (q + 1) p h1.2 (by simpa using h2) h3
            have := key l 0 p C.pre.prot hp hfx
            rwa [Nat.zero_add] at this
          obtain ⟨h1, h2⟩ := hE.old k hk (by
            show Gh.fx u.prot u.protT (ownC l _ (g.own k))
            rw [ho, hoc, hsu.prot]
            exact hpr)
          refine ⟨h1, ?_⟩
          have h3 : gE.own k = .ob p := by rw [h2]; show ownC l _ (g.own k) = _; rw [ho, hoc]
          show ownB l _ _ (g.own k) (gE.own k) = _
          rw [h3]
          show (if p < l.length then Gh.ob (l.getD p 0) else .dat) = _
          rw [if_pos (List.getElem?_eq_some_iff.1 hp).1, getD_of hp]
    refine ⟨hE.os.trans hf.os, hE.tape.trans hf.tape, hE.output.trans hf.output, Nat.le_trans hf.size hE.size, fun k hk hfx => ?_, fun k hk => ?_, hf.mu, fun k m s hk h0 => ?_, fun m hm => ?_, fun k m hm hk => ?_⟩
    · obtain ⟨h1, h2⟩ := hf.old k hk hfx
      obtain ⟨h3, h4⟩ := hold k (Nat.lt_of_lt_of_le hk hf.size) (by rw [h2]; exact hfx)
      exact ⟨h3.trans h1, h4.trans h2⟩
    · rcases ownB_cases l (callM P fc st l ts all) (newM fc st l dst) (g.own k) (gE.own k) with h1 | ⟨_, _, h1⟩ | ⟨p, h1, _, _⟩ | ⟨q, m, _, ⟨s, h1, _⟩ | ⟨h1, _⟩⟩
      · exact absurd h1 hk
      · exact Nat.lt_of_lt_of_le (hf.lt k (by rw [← h1]; exact hk)) hE.size
      · exact hE.lt k (by rw [h1]; simp)
      · exact hE.lt k (by rw [h1]; simp)
      · exact hE.lt k (by rw [h1]; simp)
    · obtain ⟨h1, h2⟩ := hf.tl k m s hk h0
      have hkw := Nat.lt_of_lt_of_le hk hf.size
      rcases h2 with h2 | ⟨m', s', h2, h3⟩
      · obtain ⟨h4, _, h5⟩ := C.old hkw (by rw [h2]; rfl)
        exact ⟨fun o v ho hv => (cell_block h4).trans (h1 o v ho hv), .inl (h5.trans h2)⟩
      · by_cases hc : ownC l (callM P fc st l ts all) (g.own k) = .dat
        · obtain ⟨h4, _, h5⟩ := C.old hkw hc
          exact ⟨fun o v ho hv => (cell_block h4).trans (h1 o v ho hv), .inr ⟨m', s', h5.trans h2, h3⟩⟩
        · obtain ⟨q, hoc⟩ : ∃ q, ownC l (callM P fc st l ts all) (g.own k) = .tl q s' := by
            rw [h2] at hc ⊢
            unfold ownC at hc ⊢
            simp only at hc ⊢
            cases hi : idxM m' 0 (callM P fc st l ts all) with
            | none => rw [hi] at hc; exact absurd rfl hc
            | some q => exact ⟨q, rfl⟩
          obtain ⟨h4, h5⟩ := hE.tl k q s' hkw hoc
          refine ⟨fun o v ho hv => h4 o v (by omega) (h1 o v ho hv), ?_⟩
          rcases ownB_cases l (callM P fc st l ts all) (newM fc st l dst) (g.own k) (gE.own k) with h6 | ⟨_, h6, _⟩ | ⟨p, h6, _, _⟩ | ⟨q', m2, _, ⟨s2, h6, h7⟩ | ⟨h6, _⟩⟩
          · exact .inl h6
          · exact absurd h6 hc
          · rcases h5 with h5 | ⟨_, _, h5, _⟩ <;> rw [h6] at h5 <;> cases h5
          · rcases h5 with h5 | ⟨_, _, h5, h8⟩
            · rw [h6] at h5; cases h5
            · rw [h6] at h5; cases h5; exact .inr ⟨m2, s2, h7, by omega⟩
          · rcases h5 with h5 | ⟨_, _, h5, _⟩ <;> rw [h6] at h5 <;> cases h5
    · rw [C.rho' (fun h => (C.new m h).2.2 hm)]
      exact hf.rho m hm
    · rcases C.tk hk with ⟨_, _, h1, _⟩ | ⟨q, h1, _⟩
      · rw [h1] at hk ⊢
        exact hf.back k m hm hk
      · exact absurd hm (C.new m (List.mem_of_getElem? h1)).2.2
  · have h1 := C.rel.xown bb o hx
    obtain ⟨_, _, h2⟩ := C.old (Nat.lt_of_lt_of_le (C.rel.xlt bb o hx) C.rel.fr.size) (by rw [h1]; rfl)
    exact h2.trans h1
  · refine (C.known m).2 ?_
    rcases C.tk hb with ⟨h1, _, h2, h3⟩ | ⟨q, h1, _⟩
    · rw [h2] at hb
      exact .inr ⟨fun h => ownC_in C.pre.once hb h h1, C.rel.tkl bb m hb⟩
    · exact .inl (List.mem_of_getElem? h1)
  · refine (C.known m).2 (.inr ⟨fun h => (C.marks m h).2 ?_, C.rel.ptl m ?_⟩)
    · rw [hsm.protT] at hm; exact hm
    · rw [hsm.protT] at hm; exact hm
theorem uncast {t : TypeId} {s : Sh} {d : D} {aps : List Ap} {v : Value} (h : RV P X g st w (cast P t (.dt s d aps)) v) : RV P X g st w (.dt s d aps) v := by
  obtain ⟨ag, ks⟩ := s
  by_cases hb : ag = false ∧ ks = [.bool]
  · obtain ⟨rfl, rfl⟩ := hb
    have h : RV P X g st w (.dt ⟨false, [.bool]⟩ (.bool d.toBool) aps) v := h
    obtain ⟨h1, h2, h3, h4⟩ := h
    refine ⟨h1, h2, h3, fun j k hj => ?_⟩
    match j, hj with
    | 0, hj =>
      simp at hj
      subst hj
      have h5 := h4 0 .bool rfl
      refine ⟨h5.1, ?_⟩
      have h6 := h5.2
      have hrl : ∀ u, RL P w (Wr X g) .bool (Sh.at ⟨false, [.bool]⟩ (.bool d.toBool) 0) u → RL P w (Wr X g) .bool (Sh.at ⟨false, [.bool]⟩ d 0) u := fun u hu => by
        cases hu
        exact .bool d
      revert h6
      generalize aps.getD 0 .dead = q
      intro h6
      cases q with
      | ro => exact hrl _ h6
      | nl => exact ⟨hrl _ h6.1, h6.2⟩
      | full => exact ⟨hrl _ h6.1, h6.2⟩
      | own m => exact ⟨hrl _ h6.1, h6.2⟩
      | arr m =>
        refine ⟨h6.1, fun hl => ⟨(h6.2 hl).1, ?_⟩⟩
        obtain ⟨e, s, a, n, c, b, o, u, hk, _⟩ := (h6.2 hl).2
        cases hk
      | dead => trivial
      | x xv => exact h6
    | j + 1, hj => simp at hj
  · have : cast P t (.dt ⟨ag, ks⟩ d aps) = .dt ⟨ag, ks⟩ d aps := by
      unfold cast
      split
      · rename_i h; cases h
      · rename_i d' ap' h; cases h; exact absurd ⟨rfl, rfl⟩ hb
      · rfl
    rwa [this] at h
theorem Came.res (C : Came P X w0 g0 g gE fc fn st stx u a w w' l ts all dst obs ds us) {ss : List Sh} (hss : shapes P fn.resultTypes.toList = some ss) (hus : us.size = fn.resultTypes.size) {i : Nat} {x : AV}
    (hx : (resAVs fc.own (st.tb + dst.getD 0) ss 0 ds)[i]? = some x) : ∃ v, us[i]? = some v ∧ (∀ l, x ≠ .tup l) ∧
      RV P X (ghoB l (callM P fc st l ts all) (newM fc st l dst) g gE) (clMid fc st l ((callM P fc st l ts all).filterMap id) dst fn.resultTypes.toList.length ds) w' x v := by
  obtain ⟨h1, h2⟩ := shapes_spec hss
  rw [resAVs_at, Option.map_eq_some_iff] at hx
  obtain ⟨s, h3, rfl⟩ := hx
  rw [Nat.zero_add]
  have hil : i < fn.resultTypes.toList.length := by rw [← h1]; exact (List.getElem?_eq_some_iff.1 h3).1
  obtain ⟨s', h4, h5⟩ := h2 i _ (List.getElem?_eq_getElem hil)
  rw [h3] at h4
  cases h4
  have hiu : i < us.size := by rw [hus]; simpa using hil
  refine ⟨us[i], by simp [hiu], by simp, ?_⟩
  have hsl := finSlots_at fn.resultTypes.toList 0 i _ (List.getElem?_eq_getElem hil)
  rw [Nat.zero_add] at hsl
  obtain ⟨s2, d2, aps2, h6, h7, h8, h9⟩ := C.pk.slot i i _ hsl
  rw [h5] at h7
  cases h7
  have huf := unT_fr i (finI fc fn obs.length).toks { finB fc fn obs with fr := unS P (finI fc fn obs.length).slots ds 0 (finB fc fn obs).fr, hp := unO (finI fc fn obs.length).objs ds (finI fc fn obs.length).slots.length (finB fc fn obs).hp }
  have huu : u.fr = (unT (finI fc fn obs.length).toks { finB fc fn obs with fr := unS P (finI fc fn obs.length).slots ds 0 (finB fc fn obs).fr, hp := unO (finI fc fn obs.length).objs ds (finI fc fn obs.length).slots.length (finB fc fn obs).hp }).fr := by rw [C.uis]; rfl
  rw [← huu] at huf
  have hlen : i < (finB fc fn obs).fr.length := by
    show i < (repA AV.undef fn.resultTypes.size).length
    rw [length_repA]
    simpa using hil
  have hun : (unS P (finI fc fn obs.length).slots ds 0 (finB fc fn obs).fr).getD i .undef = cast P fn.resultTypes.toList[i] (.dt s (ds.getD i (.int 0)) (roAps s.ks)) := by
    rcases unS_getD (P := P) i (finI fc fn obs.length).slots ds 0 (finB fc fn obs).fr C.pk.slots with ⟨h, _⟩ | ⟨idx, t, h10, h11⟩
    · exact absurd (List.mem_map.2 ⟨_, List.mem_of_getElem? hsl, rfl⟩) h
    · have hidx : idx = i := by
        have e1 : ((finI fc fn obs.length).slots.map (·.1))[idx]? = some i := by rw [List.getElem?_map, h10]; rfl
        have e2 : ((finI fc fn obs.length).slots.map (·.1))[i]? = some i := by rw [List.getElem?_map, show (finI fc fn obs.length).slots[i]? = _ from hsl]; rfl
        exact (posOf_nodup C.pk.slots e1).symm.trans (posOf_nodup C.pk.slots e2)
      subst hidx
      rw [show (finI fc fn obs.length).slots[idx]? = _ from hsl] at h10
      cases h10
      rw [h11 hlen, Nat.zero_add]
      unfold slotAV
      rw [h5]
  have hv := C.out.slot i
  rw [show ({ tmps := us, defers := [] } : Act).tmps.getD i undef = us[i] by simp [hiu]] at hv
  cases hof : resAVs.ownOf fc.own i with
  | none =>
    rw [show resAps fc.own (st.tb + dst.getD 0) i s = roAps s.ks by unfold resAps; rw [hof]]
    rcases huf with ⟨_, h10⟩ | ⟨bb, mm, hmem, _⟩
    · rw [h10, hun] at hv
      have h11 := uncast hv
      refine ⟨h11.1, h11.2.len, h11.2.lap, fun j k hj => ?_⟩
      have h12 := h11.2.at_ j k hj
      rw [roAps_getD _ _ (List.getElem?_eq_some_iff.1 hj).1] at h12 ⊢
      exact ⟨h12.1, h12.2.mono C.stay2⟩
    · exfalso
      rcases List.mem_append.1 hmem with hmem | hmem
      · obtain ⟨_, _, _, _, _, h7⟩ := insToks_mem.1 hmem
        injection h7 with h7 h8
        injection h8 with h8 h9
        cases h8
      · obtain ⟨i', b', h6, h7⟩ := ownToks_mem.1 hmem
        injection h7 with h7 h8
        subst h7
        exact ownOf_none hof b' h6
  | some b =>
    have hmo := ownOf_mem hof
    have hmemT : (i, none, b, fc.ins.length) ∈ (finI fc fn obs.length).toks := List.mem_append_right _ (ownToks_mem.2 ⟨i, b, hmo, rfl⟩)
    have hone : fc.own = [(i, b)] := by
      have h := C.own
      revert h hmo
      generalize fc.own = own
      intro hmo h
      match own, hmo, h with
      | [x], hmo, _ => simp at hmo; rw [hmo]
      | x :: y :: r, _, h => unfold ownOk at h; cases dst <;> cases h
    have hnmq : (newM fc st l dst)[fc.ins.length]? = some (st.tb + dst.getD 0) := by
      unfold newM
      rw [hone, List.getElem?_append_right (by rw [marksAfter_length]; omega), marksAfter_length, Nat.sub_self]
      rfl
    have hks : ∃ e, s.ks = [.sl e] := by
      obtain ⟨⟨e, s1, hk1, _⟩, _⟩ := C.pk.tok _ hmemT
      unfold kAt at hk1
      simp only [h6] at hk1
      obtain ⟨ag, ks⟩ := s
      split at hk1
      · rename_i heq
        injection heq with heq
        injection heq with _ heq
        exact ⟨_, heq⟩
      · cases hk1
    obtain ⟨e, hks⟩ := hks
    rcases huf with ⟨hno, _⟩ | ⟨bb, mm, hmem, h10⟩
    · exact absurd hmemT (hno _ _)
    · have hbb : bb = b ∧ mm = fc.ins.length := by
        rcases List.mem_append.1 hmem with hmem | hmem
        · obtain ⟨_, _, _, _, _, h7⟩ := insToks_mem.1 hmem
          injection h7 with h7 h8
          injection h8 with h8 h9
          cases h8
        · obtain ⟨i', b', h11, h12⟩ := ownToks_mem.1 hmem
          injection h12 with h12 h13
          injection h13 with h13 h14
          injection h14 with h14 h15
          rw [hone, List.mem_singleton] at h11
          cases h11
          exact ⟨h14, h15⟩
      obtain ⟨rfl, rfl⟩ := hbb
      simp only [unS_length, if_pos hlen, hun] at h10
      have hcast : cast P fn.resultTypes.toList[i] (.dt s (ds.getD i (.int 0)) (roAps s.ks)) = .dt s (ds.getD i (.int 0)) [.ro] := by
        obtain ⟨ag, ks⟩ := s
        simp only at hks
        subst hks
        cases ag <;> rfl
      rw [hcast] at h10
      rw [h10] at hv
      have hv : RV P (calleeX P fc st X g l ts all) gE u w' (.dt s (ds.getD i (.int 0)) [mkAp bb fc.ins.length]) us[i] := hv
      have haps : resAps fc.own (st.tb + dst.getD 0) i s = [mkAp bb (st.tb + dst.getD 0)] := by unfold resAps; rw [hof]; cases bb <;> rfl
      rw [haps]
      refine ⟨hv.1, hv.2.len, by rw [hks]; rfl, fun j k hj => ?_⟩
      have hj0 : j = 0 := by
        have := (List.getElem?_eq_some_iff.1 hj).1
        rw [hks] at this
        simpa using this
      subst hj0
      exact C.ra hnmq (hv.2.at_ 0 k hj)
theorem Came.done (C : Came P X w0 g0 g gE fc fn st stx u a w w' l ts all dst obs ds us) {ss : List Sh} (hss : shapes P fn.resultTypes.toList = some ss) (hus : us.size = fn.resultTypes.size) :
    Rel P X w0 g0 (ghoB l (callM P fc st l ts all) (newM fc st l dst) g gE) (clBack fc st l ((callM P fc st l ts all).filterMap id) dst ss ds) (a.put dst (if h : us.size = 1 then us[0] else .tuple us)) w' := by
  obtain ⟨h1, _⟩ := shapes_spec hss
  rw [clBack_mid, h1]
  refine C.back.put dst ?_
  have hlen : (resAVs fc.own (st.tb + dst.getD 0) ss 0 ds).length = us.size := by rw [resAVs_length, h1, hus]; simp
  generalize hL : resAVs fc.own (st.tb + dst.getD 0) ss 0 ds = L at hlen
  have hres : ∀ (i : Nat) (x : AV), L[i]? = some x → ∃ v, us[i]? = some v ∧ (∀ l, x ≠ .tup l) ∧
      RV P X (ghoB l (callM P fc st l ts all) (newM fc st l dst) g gE) (clMid fc st l ((callM P fc st l ts all).filterMap id) dst fn.resultTypes.toList.length ds) w' x v := fun i x hx => C.res hss hus (by rw [hL]; exact hx)
  unfold resAV
  split
  · rename_i v
    have h2 : us.size = 1 := by rw [← hlen]; rfl
    rw [dif_pos h2]
    obtain ⟨v', h3, _, h4⟩ := hres 0 v rfl
    rw [Array.getElem?_eq_getElem (by omega)] at h3
    cases h3
    exact h4
  · rename_i hne
    have h2 : ¬ us.size = 1 := fun h => by
      rw [← hlen] at h
      match L, h with
      | [v], _ => exact hne v rfl
    rw [dif_neg h2]
    refine ⟨us, rfl, fun i x hx => ?_⟩
    obtain ⟨v', h3, h4, h5⟩ := hres i x hx
    exact ⟨v', h3, (rvb_rv h4).2 h5⟩
end
end Go.Proofs.Ytkimdfpmblhapaa.Va

/- Calls go as the functions' numbers say. -/
set_option linter.unusedVariables false
set_option linter.unusedSimpArgs false
namespace Go.Proofs.Ytkimdfpmblhapaa.Va
open Go.RowKit

theorem run_enter {P : Program} {f : FuncId} {fn : Func} {c : Code} (hf : P.funcs[f]? = some fn) (hname : fn.name ≠ "runtime.NumGoroutine") (hb : fn.body = some c) (args : Array Value) (w : World) :
    (callFunc f args).run P w = .ok (.enter f args) w := by
  have hname : (fn.name == "runtime.NumGoroutine") = false := by simpa using hname
  have h1 : fn.name ≠ "runtime.NumGoroutine" := by simpa using hname
  simp [callFunc, hf, h1, hb]
theorem nodup_gather {hp : List (Option Ob)} {l names : List Nat} (h : reachOk hp l names = true) : (∀ n ∈ names, n ∈ l) ∧ (∀ n ∈ l, ∀ k ∈ obNames (hp.getD n none), k ∈ l) ∧ nodup l = true := by
  unfold reachOk at h
  simp only [Bool.and_eq_true] at h
  obtain ⟨⟨h1, h2⟩, h3⟩ := h
  refine ⟨fun n hn => ?_, fun n hn k hk => ?_, h3⟩
  · simpa using List.all_eq_true.1 h1 n hn
  · simpa using List.all_eq_true.1 (List.all_eq_true.1 h2 n hn) k hk
theorem allNames_app : ∀ (a b : List AV), allNames (a ++ b) = allNames a ++ allNames b
  | [], b => rfl
  | x :: r, b => by
    show avNames x ++ allNames (r ++ b) = (avNames x ++ allNames r) ++ allNames b
    rw [allNames_app r b, List.append_assoc]
theorem allNames_xv : ∀ (l : List XV) (x : XV), x ∈ l → ∀ n ∈ x.names, n ∈ allNames (l.map xv)
  | y :: r, x, h, n, hn => by
    show n ∈ avNames (xv y) ++ allNames (r.map xv)
    rcases List.mem_cons.1 h with h | h
    · subst h
      refine List.mem_append_left _ ?_
      show n ∈ x.names ++ []
      rw [List.append_nil]
      exact hn
    · exact List.mem_append_right _ (allNames_xv r x h n hn)
theorem call_ok {P : Program} {cfs : FuncId → Nat → FCfg} {env : Env} (hrun : RunOk P cfs env) : CallOk P cfs env := by
  intro o v as c r st X w0 g0 g a w hcall hcl henv hr K Q hK
  obtain ⟨c0, ho, hc0, hargs0⟩ : ∃ c0, o.op = .call c0 ∧ c0.callee = .value v ∧ c0.args.toList = as := by
    unfold isCall at hcall
    split at hcall
    · rename_i c0 hop
      split at hcall
      · rename_i vv hcv
        cases hcall
        exact ⟨c0, hop, hcv, rfl⟩
      · cases hcall
    · cases hcall
  unfold callee at hcl
  split at hcl
  · rename_i d f first cap hv
    split at hcl
    · rename_i fn hfn
      simp only at hcl
      generalize hl : gather st.hp 1000 (allNames (first.map xv ++ as.map st.ev ++ cap.map xv)) [] = l at hcl
      split at hcl
      · rename_i args obs ss hcast hren hss
        split at hcl
        · rename_i hcond
          rw [Bool.and_eq_true] at hcond
          obtain ⟨hok, hreach⟩ := hcond
          obtain ⟨hnames, hreach, hnd⟩ := nodup_gather hreach
          unfold calleeOk at hok
          simp only [Bool.and_eq_true, decide_eq_true_eq] at hok
          obtain ⟨⟨⟨⟨⟨⟨⟨⟨⟨⟨k1, k2⟩, k3⟩, k4⟩, k5⟩, k6⟩, k7⟩, k8⟩, k9⟩, k10⟩, k11⟩ := hok
          injection hcl with hcl
          subst hcl
          simp only at henv hK
          have hxf := rv_x (by have := hr.ev v; rw [hv] at this; exact this)
          generalize hev : a.eval v = vv at hxf
          cases hxf with
          | fn _ _ _ va vb hva hvb hra hrb =>
            have hcallM : (callM P (cfs f l.length) st l fn.params.toList (first.map xv ++ as.map st.ev)).filterMap id = tokMarks st (insT l (cfs f l.length).ins) ++ gaMarks P (cfs f l.length).argArr 0 fn.params.toList (first.map xv ++ as.map st.ev) := by
              unfold callM
              rw [List.filterMap_append, inM_marks, gaM_marks]
            have hp : CallPre P (cfs f l.length) st l fn.params.toList (first.map xv ++ as.map st.ev) :=
              ⟨k1, by rw [hcallM]; exact k2, fun m hm => List.all_eq_true.1 k3 m hm, k4, fun x hx => by
                have := List.all_eq_true.1 k9 x hx
                simp only [Bool.and_eq_true, decide_eq_true_eq] at this
                exact ⟨by simpa using this.1, this.2⟩, k10, hreach, hnd⟩
            have hvl : (va.toList ++ as.map a.eval).length = (first.map xv ++ as.map st.ev).length := by simp [hva]
            have hvs : ∀ k, RV P X g st w ((first.map xv ++ as.map st.ev).getD k .undef) ((va.toList ++ as.map a.eval).getD k undef) := fun k => by
              rw [getD_app, getD_app, List.length_map, show va.toList.length = va.size from rfl, hva]
              split
              · rename_i hk
                have e1 : (first.map xv).getD k .undef = xv (first[k]'(by omega)) := getD_of (by rw [List.getElem?_map, List.getElem?_eq_getElem (by omega)]; rfl)
                have e2 : va.toList.getD k undef = va[k]'hk := getD_of (by simp [hk])
                rw [e1, e2]
                exact mk_x (hra k _ _ (List.getElem?_eq_getElem (by omega)) (Array.getElem?_eq_getElem hk))
              · rename_i hk
                by_cases hk2 : k - va.size < as.length
                · rw [getD_of (show (as.map st.ev)[k - va.size]? = some (st.ev as[k - va.size]) by rw [List.getElem?_map, List.getElem?_eq_getElem hk2]; rfl),
                    getD_of (show (as.map a.eval)[k - va.size]? = some (a.eval as[k - va.size]) by rw [List.getElem?_map, List.getElem?_eq_getElem hk2]; rfl)]
                  exact hr.ev _
                · rw [List.getD_eq_getElem?_getD, List.getElem?_eq_none (by simpa using hk2)]
                  trivial
            have hin := call_in hr hp hcast hren (va.toList ++ as.map a.eval) hvl hvs (fun n hn => hnames n (by rw [allNames_app]; exact List.mem_append_left _ hn))
              cap vb.toList (by simp [hvb]) (fun k x hx => by
                have hk : k < vb.size := by rw [← hvb]; exact (List.getElem?_eq_some_iff.1 hx).1
                rw [getD_of (show vb.toList[k]? = some vb[k] by simp [hk])]
                exact hrb k x _ hx (Array.getElem?_eq_getElem hk))
              (fun x hx n hn => hnames n (by rw [allNames_app]; exact List.mem_append_right _ (allNames_xv cap x hx n hn))) fn.ntmps
            have hcl0 : castArgs P l (cfs f l.length).argArr 0 (cfs f l.length).ins.length fn.params.toList (first.map xv ++ as.map st.ev) = some args := hcast
            have hol : obs.length = l.length := (renObs_spec hren).1
            obtain ⟨hb, hname, hcalls⟩ := hrun f fn _ obs r henv hfn
            rw [show cfs f obs.length = cfs f l.length by rw [hol]] at hcalls
            obtain ⟨c, hb⟩ := Option.isSome_iff_exists.1 hb
            have hC := hcalls _ w _ (va ++ c0.args.map a.eval ++ vb) (by
              have e : (va ++ c0.args.map a.eval ++ vb) = (va.toList ++ as.map a.eval ++ vb.toList).toArray := by
                rw [← hargs0]
                apply Array.ext'
                simp
              rw [e]
              exact hin)
            have hexec : (execOp a.eval o).run P w = .ok (.enter f (va ++ c0.args.map a.eval ++ vb)) w := by
              unfold execOp
              rw [ho]
              simp only
              unfold resolve
              rw [hc0]
              simp only [hev]
              show ((Deferred.ofValue (.func (.func f) va vb) (c0.args.map a.eval)) >>= fun d => invoke d.target d.args).run P w = _
              unfold Deferred.ofValue
              simp only [Sem.run_bind, Sem.run_pure]
              exact run_enter hfn hname hb _ w
            unfold Oper.wp
            rw [hexec, Oper.upon_enter]
            refine hC.mono fun e w' he => ?_
            obtain ⟨us, gE, rfl, hus, hE, stx, hpk⟩ := he
            have hlenA : fn.params.toList.length = (first.map xv ++ as.map st.ev).length := by
              have : ∀ (ts : List TypeId) (all args : List AV) (i q : Nat), castArgs P l (cfs f l.length).argArr i q ts all = some args → ts.length = all.length := by
                intro ts
                induction ts with
                | nil => intro all args i q h; cases all with
                  | nil => rfl
                  | cons x r => unfold castArgs at h; cases h
                | cons t ts ih => intro all args i q h; cases all with
                  | nil => unfold castArgs at h; cases h
                  | cons x r =>
                    unfold castArgs at h
                    split at h
                    · rename_i y as h1 h2; simp [ih _ _ _ _ h2]
                    · cases h
              exact this _ _ _ _ _ hcast
            have C : Came P X w0 g0 g gE (cfs f l.length) fn st stx _ a w w' l fn.params.toList (first.map xv ++ as.map st.ev) o.dst obs r.2 us :=
              ⟨hr, hp, hlenA, k7, by rw [hcallM]; exact k8, k6, k11, hren, rfl, hE, hpk⟩
            have hfin := C.done hss hus
            rw [hcallM] at hfin
            exact hK _ _ _ hfin
        · cases hcl
      · cases hcl
    · cases hcl
  · cases hcl
end Go.Proofs.Ytkimdfpmblhapaa.Va

/- From a run to a call in the model. -/
set_option linter.unusedVariables false
set_option linter.unusedSimpArgs false
namespace Go.Proofs.Ytkimdfpmblhapaa.Va
open Go.RowKit

theorem runs_ok {P : Program} {cfs : FuncId → Nat → FCfg} (hm : P.follows .mixedOrders = true) : ∀ n, RunOk P cfs (run P cfs n)
  | 0 => fun f fn as obs r h => by cases h
  | n + 1 => run_ok hm n (call_ok (runs_ok hm n))
def gho0 : Gho := { mu := fun _ => 0, rho := fun _ => (undef, 0), own := fun _ => .dat }
def noX (_ _ : Nat) : Prop := False
/-- A law that comes to a truth. -/
theorem law_calls {P : Program} {cfs : FuncId → Nat → FCfg} (hm : P.follows .mixedOrders = true) {n f : Nat} {fn : Func} (hf : P.funcs[f]? = some fn) {as : List AV} {vals : Array Value} {b : Bool} {w : World}
    (hc1 : (cfs f 0).ins = []) (hc2 : (cfs f 0).argArr = []) (hc3 : (cfs f 0).own = []) {bt : TypeId} (hres : fn.resultTypes = #[bt]) (hbt : shp P bt = some ⟨false, [.bool]⟩)
    (hl : vals.size = as.length) (hv : ∀ i : Nat, RV P noX gho0 (st0 (cfs f 0) as [] fn.ntmps) w (as.getD i .undef) (vals.getD i undef))
    (h : run P cfs n f as [] = some (0, [.bool b])) : Calls P f vals w fun e w' => e = .returned (.bool b) ∧ Below w.heap.size w w' := by
  obtain ⟨_, _, hcalls⟩ := runs_ok hm n f fn as [] _ h hf
  have hlive : ∀ m, liveTk (st0 (cfs f 0) as [] fn.ntmps) m = true → False := fun m hm => by
    have := st0_live.1 hm
    rw [hc1, hc2] at this
    exact absurd this (Nat.not_lt_zero _)
  have hr : Rel P noX w gho0 gho0 (st0 (cfs f 0) as [] fn.ntmps) { tmps := vals ++ Array.replicate (fn.ntmps - vals.size) undef, defers := [] } w := by
    refine ⟨rfl, ?_, fun i => ?_, fun n o ho => ?_, fun m hm => (hlive m hm).elim, .refl (fun bb hb => absurd rfl hb) _ _ _ _, fun bb o h => h.elim, fun bb o h => h.elim, fun bb m h => ?_, fun m hm => by cases hm⟩
    · show (vals ++ Array.replicate (fn.ntmps - vals.size) undef).size = (as.map norm ++ repA AV.undef (fn.ntmps - as.length)).length
      simp only [Array.size_append, Array.size_replicate, List.length_append, List.length_map, length_repA, hl]
    · show RV _ _ _ _ _ ((as.map norm ++ repA AV.undef (fn.ntmps - as.length)).getD i AV.undef) ((vals ++ Array.replicate (fn.ntmps - vals.size) undef).getD i undef)
      rw [getD_app]
      split
      · rename_i hi
        rw [List.length_map] at hi
        rw [getD_map _ _ _ _ rfl]
        have : (vals ++ Array.replicate (fn.ntmps - vals.size) undef).getD i undef = vals.getD i undef := by
          rw [Array.getD_eq_getD_getElem?, Array.getElem?_append_left (by omega), Array.getD_eq_getD_getElem?]
        rw [this]
        exact norm_rv (hv i)
      · rw [getD_repA]; trivial
    · rw [st0_hp] at ho
      simp at ho
    · rcases h with ⟨_, h⟩ | h <;> cases h
  refine (hcalls noX w gho0 vals hr).mono fun e w' he => ?_
  obtain ⟨us, gE, rfl, hus, hE, stx, hpk⟩ := he
  rw [hres] at hus
  have hus : us.size = 1 := hus
  rw [dif_pos hus]
  have hsu := un_same P (finI (cfs f 0) fn 0) (finB (cfs f 0) fn []) [.bool b]
  have hsl : (finI (cfs f 0) fn 0).slots = [(0, bt)] := by
    show finSlots 0 fn.resultTypes.toList = _
    rw [hres]
    rfl
  have htoks : (finI (cfs f 0) fn 0).toks = [] := by
    show insToks 0 (cfs f 0).ins ++ ownToks (cfs f 0).ins.length (cfs f 0).own = _
    rw [hc1, hc3]
    rfl
  have hfr : ((finI (cfs f 0) fn 0).un P (finB (cfs f 0) fn []) [.bool b]).fr.getD 0 .undef = .dt ⟨false, [.bool]⟩ (.bool b) [.ro] := by
    show (unT (finI (cfs f 0) fn 0).toks { finB (cfs f 0) fn [] with fr := unS P (finI (cfs f 0) fn 0).slots [.bool b] 0 (finB (cfs f 0) fn []).fr, hp := _ }).fr.getD 0 .undef = _
    rw [htoks, hsl]
    show (unS P [(0, bt)] [.bool b] 0 (repA AV.undef fn.resultTypes.size)).getD 0 .undef = _
    rw [hres]
    show (([AV.undef].set 0 (match shp P bt with | some s => cast P bt (.dt s ([D.bool b].getD 0 (.int 0)) (roAps s.ks)) | none => .undef))).getD 0 .undef = _
    rw [hbt]
    rfl
  have hs := hE.slot 0
  rw [show ([] : List Ob).length = 0 from rfl] at hs
  rw [hfr] at hs
  have h0 : us[0] = .bool b := by
    have := rv_bool hs
    rw [show ({ tmps := us, defers := [] } : Act).tmps.getD 0 undef = us[0] by simp [hus]] at this
    exact this
  rw [h0]
  have hF := hE.fr
  exact ⟨rfl, hF.os, hF.tape, hF.output, hF.size, fun k hk => (hF.old k hk trivial).1⟩
theorem law_string {P : Program} {cfs : FuncId → Nat → FCfg} (hm : P.follows .mixedOrders = true) {n f : Nat} {fn : Func} (hf : P.funcs[f]? = some fn) (hc1 : (cfs f 0).ins = []) (hc2 : (cfs f 0).argArr = []) (hc3 : (cfs f 0).own = [])
    {bt : TypeId} (hres : fn.resultTypes = #[bt]) (hbt : shp P bt = some ⟨false, [.bool]⟩) (s : ByteArray) (w : World)
    (h : run P cfs n f [sc .str (.str s)] [] = some (0, [.bool true])) : Calls P f #[.string s] w fun e w' => e = .returned (.bool true) ∧ Below w.heap.size w w' :=
  law_calls hm hf hc1 hc2 hc3 hres hbt rfl (fun i => by
    match i with
    | 0 => exact mk_str (.str s)
    | i + 1 => trivial) h
end Go.Proofs.Ytkimdfpmblhapaa.Va
