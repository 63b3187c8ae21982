/- The abstract interpreter over the loaded code, and parts of the proof that what it computes is what the call comes to. No condition beyond those that each theorem states. -/
import Derived.Test.YtkimdfpmblhapaaA3
set_option linter.unusedVariables false
set_option linter.unusedSimpArgs false
set_option linter.constructorNameAsVariable false
/- Operations in any order: what an operation does. -/
set_option linter.unusedVariables false
set_option linter.unusedSimpArgs false
namespace Go.Proofs.Ytkimdfpmblhapaa.Va
open Go.RowKit

section
variable {P : Program} {cfs : FuncId → Nat → FCfg} {fc : FCfg} {env : Env} {ops : List Oper} {i : Nat} {o : Oper} {st st2 st' : St} {b : Bool} {out : Out}
theorem he_new {n : Nat} (h : o.dst = some n) : st.nb + n ∈ (fpOf ops i o st).H := by
  show _ ∈ (st.nb + o.dst.getD 0) :: _
  rw [h]
  exact List.mem_cons_self
theorem he_newT {n : Nat} (h : o.dst = some n) : st.tb + n ∈ (fpOf ops i o st).T := by
  show _ ∈ (st.tb + o.dst.getD 0) :: _
  rw [h]
  exact List.mem_cons_self
theorem he_obj {x : Operand} (h : x ∈ opsOf o.op) {n : Nat} (hn : n ∈ avNames (st.ev x)) : n ∈ (fpOf ops i o st).H := List.mem_cons_of_mem _ (mem_namesOf h hn)
theorem he_mark {x : Operand} (h : x ∈ opsOf o.op) {m : Nat} (hm : m ∈ avMarks (st.ev x)) : m ∈ (fpOf ops i o st).T := List.mem_cons_of_mem _ (mem_marksOf h hm)
theorem val_none {x : AV} (h : val x = some (b, out)) : out.he = .none := by
  unfold val at h
  cases h
  rfl
theorem core_he (hcore : core P fc o st = some (b, out)) : HeIn (fpOf ops i o st) out.he := by
  have key : out.he = .none → HeIn (fpOf ops i o st) out.he := fun h => by rw [h]; trivial
  cases ho : o.op with
  | alloc t =>
    unfold core at hcore
    rw [ho] at hcore
    simp only at hcore
    split at hcore
    · rename_i n s hd hsh
      split at hcore
      · split at hcore
        · cases hcore
          exact ⟨he_new hd, by show writesH o.op = true; rw [ho]; rfl⟩
        · cases hcore
      · cases hcore
    · cases hcore
  | box t x =>
    unfold core at hcore
    rw [ho] at hcore
    simp only at hcore
    split at hcore
    · rename_i n s _ _ _ hd hsh hc
      split at hcore
      · cases hcore
        exact ⟨he_new hd, by show writesH o.op = true; rw [ho]; rfl⟩
      · cases hcore
    · cases hcore
  | store t x y =>
    have hx : x ∈ opsOf o.op := by rw [ho]; simp [opsOf]
    unfold core at hcore
    rw [ho] at hcore
    simp only at hcore
    split at hcore
    · rename_i d n off s s' d' aps hev hsh hc
      split at hcore
      · split at hcore
        · cases hcore
          exact ⟨he_obj hx (xnames hev (by simp [XV.names])), by show writesH o.op = true; rw [ho]; rfl⟩
        · cases hcore
      · cases hcore
    · cases hcore
  | makeMap t r =>
    unfold core at hcore
    rw [ho] at hcore
    simp only at hcore
    split at hcore
    · rename_i k v n hu hd
      split at hcore
      · split at hcore
        · cases hcore
          exact ⟨he_new hd, by show writesH o.op = true; rw [ho]; rfl⟩
        · cases hcore
      · cases hcore
    · cases hcore
  | mapUpdate t x y z =>
    have hx : x ∈ opsOf o.op := by rw [ho]; simp [opsOf]
    unfold core at hcore
    rw [ho] at hcore
    simp only at hcore
    split at hcore
    · rename_i k v d n kk di hu hev hev2
      split at hcore
      · split at hcore
        · cases hcore
          exact ⟨he_obj hx (xnames hev (by simp [XV.names])), by show writesH o.op = true; rw [ho]; rfl⟩
        · cases hcore
      · cases hcore
    · cases hcore
  | slice t x lo hi mx =>
    have hx : x ∈ opsOf o.op := by rw [ho]; simp [opsOf]
    unfold core at hcore
    rw [ho] at hcore
    simp only at hcore
    split at hcore
    · split at hcore
      · split at hcore
        · cases hcore; trivial
        · cases hcore
      · cases hcore
    · rename_i et et' d ap hu hev
      split at hcore
      · split at hcore
        · split at hcore
          · split at hcore
            · rename_i m hap
              split at hcore
              · rename_i n hd
                split at hcore
                · cases hcore
                  exact ⟨he_newT hd, fun m' hm' => by cases hm'; exact he_mark hx (by rw [hev]; simp [avMarks, apMarks]), by show writesT o.op = true; rw [ho]; rfl⟩
                · cases hcore
              · cases hcore
            · split at hcore
              · cases hcore; trivial
              · cases hcore
          · split at hcore
            · split at hcore
              · cases hcore; trivial
              · cases hcore
            · cases hcore
        · cases hcore
      · cases hcore
    · cases hcore
  | call c =>
    unfold core at hcore
    rw [ho] at hcore
    simp only at hcore
    split at hcore
    · rename_i x hcal hargs
      split at hcore
      · exact key (val_none hcore)
      · split at hcore
        · exact key (val_none hcore)
        · cases hcore
      · cases hcore
    · rename_i x y hcal hargs
      have hx : x ∈ opsOf o.op := by rw [ho]; show x ∈ _ ++ c.args.toList; rw [hargs]; simp
      have hw : writesT o.op = true := by rw [ho]; show (match c.callee with | .value _ => false | _ => true) = true; rw [hcal]
      split at hcore
      · rename_i t u n h1 hd
        split at hcore
        · split at hcore
          · rename_i et et' dx ap et'' dy aq h2 h3 h4
            split at hcore
            · rename_i s inf h5 h6
              split at hcore
              · have hap : ∀ m, m ∈ apMarks [ap] → m ∈ avMarks (st.ev x) := fun m hm => by
                  unfold cast at h3
                  split at h3
                  · split at h3
                    · cases h3; simp [apMarks] at hm
                    · cases h3
                  · cases h3
                  · rw [h3]; exact hm
                split at hcore
                · cases hcore; exact ⟨he_newT hd, (fun m hm => by cases hm), hw⟩
                · split at hcore
                  · cases hcore
                  · cases hcore; exact ⟨he_newT hd, (fun m hm => by cases hm), hw⟩
                · split at hcore
                  · cases hcore; exact ⟨he_newT hd, fun m hm => by cases hm; exact he_mark hx (hap _ (by simp [apMarks])), hw⟩
                  · cases hcore
                · split at hcore
                  · cases hcore; exact ⟨he_newT hd, fun m hm => by cases hm; exact he_mark hx (hap _ (by simp [apMarks])), hw⟩
                  · cases hcore
                · cases hcore
              · cases hcore
            · cases hcore
          · cases hcore
        · cases hcore
      · cases hcore
    · cases hcore
  | _ =>
    unfold core at hcore
    rw [ho] at hcore
    simp only at hcore
    first
      | (cases hcore; done)
      | exact key (val_none hcore)
      | (repeat' (split at hcore)
         all_goals first
           | (cases hcore; done)
           | exact key (val_none hcore)
           | (cases hcore; trivial))
theorem Agree.guard (A : Agree (fpOf ops i o st) st st2) {j : Nat} {w : Bool} (h : o.guard = some (j, w)) : guardAV ops j st2 = guardAV ops j st := by
  unfold guardAV
  cases hj : ops[j]? with
  | none => rfl
  | some oj =>
    simp only
    cases hd : oj.dst with
    | none => rfl
    | some s =>
      refine A.slot s ?_
      show s ∈ tmpsOf (opsOf o.op) ++ guardLook ops o
      refine List.mem_append_right _ ?_
      unfold guardLook
      rw [h]
      simp only [hj, hd]
      simp
theorem Agree.may (A : Agree (fpOf ops i o st) st st2) (dst : Option Tmp) : mayPut st2 dst = mayPut st dst := by
  unfold mayPut
  cases dst with
  | none => rfl
  | some d => simp only [A.same.protS, A.same.fr]
theorem gather_nil (hp : List (Option Ob)) : gather hp 1000 [] [] = [] := rfl
theorem gaMarks_nil (P : Program) : ∀ (i : Nat) (ts : List TypeId) (as : List AV), gaMarks P [] i ts as = []
  | i, [], as => by simp [gaMarks]
  | i, t :: ts, [] => by simp [gaMarks]
  | i, t :: ts, a :: r => by
    unfold gaMarks
    rw [gaMarks_nil P (i + 1) ts r]
    simp
theorem resAVs_nil (m m' : Nat) (ds : List D) : ∀ (ss : List Sh) (i : Nat), resAVs [] m ss i ds = resAVs [] m' ss i ds
  | [], i => rfl
  | s :: r, i => by
    unfold resAVs
    rw [resAVs_nil m m' ds r]
    rfl
theorem clBack_pure {fc : FCfg} (h1 : fc.ins = []) (h2 : fc.own = []) (st : St) (dst : Option Tmp) (ss : List Sh) (ds : List D) :
    clBack fc st [] [] dst ss ds = st.out dst ⟨resAV (resAVs [] 0 ss 0 ds), .none⟩ := by
  unfold clBack
  rw [h1, h2]
  simp only [resAVs_nil (st.tb + dst.getD 0) 0]
  rfl
theorem callee_pure {v : Operand} {as : List Operand} {c : Cl} (hcall : isCall o.op = some (v, as)) (hmay : mayDraw P cfs o st = true) (hpk : isPick o.op = none) (h : callee P cfs o v as st = some c) :
    ∃ ss, (∀ ds, c.back ds = st.out o.dst ⟨resAV (resAVs [] 0 ss 0 ds), .none⟩) ∧ ∀ st2, Agree (fpOf ops i o st) st st2 → ∃ c2, callee P cfs o v as st2 = some c2 ∧ c2.f = c.f ∧ c2.args = c.args ∧ c2.obs = c.obs ∧ ∀ ds, c2.back ds = st2.out o.dst ⟨resAV (resAVs [] 0 ss 0 ds), .none⟩ := by
  obtain ⟨c0, ho, hc0, hargs0⟩ : ∃ c0, o.op = .call c0 ∧ c0.callee = .value v ∧ c0.args.toList = as := by
    unfold isCall at hcall
    split at hcall
    · rename_i c0 hop
      split at hcall
      · rename_i vv hcv
        cases hcall
        exact ⟨c0, hop, hcv, rfl⟩
      · cases hcall
    · cases hcall
  have hmay' := hmay
  unfold mayDraw at hmay'
  rw [hpk, hcall] at hmay'
  unfold callee at h
  split at h
  · rename_i d f first cap hv
    simp only [hv] at hmay'
    simp only [Bool.and_eq_true, List.isEmpty_iff] at hmay'
    obtain ⟨⟨⟨h1, h2⟩, h3⟩, h4⟩ := hmay'
    split at h
    · rename_i fn hfn
      simp only [h4, gather_nil, List.length_nil] at h
      rw [h1, h2] at h
      skip
      have hok : ∀ (s : St) (ncap : Nat) (al : List AV), calleeOk P (cfs f 0) fn s o.dst [] ncap al = (decide (ncap = fn.nfree) && decide ((0 : Nat) = gaCount [] 0 fn.params.toList)) := fun s ncap al => by
        unfold calleeOk
        rw [h1, h2, h3]
        simp [insT, packT, tokMarks, gaMarks_nil, nodup, protOk, ownOk, marksAfter, nodupP]
      have hre : ∀ (hp : List (Option Ob)), renObs hp [] [] 0 [] = some [] := fun hp => rfl
      have hrc : ∀ (hp : List (Option Ob)), reachOk hp [] [] = true := fun hp => rfl
      simp only [hok, hre, hrc, Bool.and_true] at h
      split at h
      · rename_i args obs ss e1 e2 e3
        cases e2
        split at h
        · rename_i hcond
          cases h
          refine ⟨ss, fun ds => ?_, fun st2 A => ?_⟩
          · rw [show tokMarks st (insT [] []) ++ gaMarks P [] 0 fn.params.toList (first.map xv ++ as.map st.ev) = [] by rw [gaMarks_nil]; rfl]
            exact clBack_pure h1 h3 st o.dst ss ds
          · have hev : st2.ev v = st.ev v := A.ev (by rw [ho]; show v ∈ (match c0.callee with | .value v => [v] | _ => []) ++ _; rw [hc0]; simp)
            have heas : as.map st2.ev = as.map st.ev := List.map_congr_left fun x hx => A.ev (by rw [ho]; exact List.mem_append_right _ (by rw [hargs0]; exact hx))
            unfold callee
            rw [hev, hv]
            simp only
            rw [hfn]
            simp only [heas, h4, gather_nil, List.length_nil]
            rw [h1, h2]
            have e1' : castArgs P [] [] 0 0 fn.params.toList (first.map xv ++ as.map st.ev) = some args := e1
            simp only [hok, hre, hrc, Bool.and_true, List.length_nil, e1', e3]
            rw [if_pos hcond]
            refine ⟨_, rfl, rfl, rfl, rfl, fun ds => ?_⟩
            rw [show tokMarks st2 (insT [] []) ++ gaMarks P [] 0 fn.params.toList (first.map xv ++ as.map st.ev) = [] by rw [gaMarks_nil]; rfl]
            exact clBack_pure h1 h3 st2 o.dst ss ds
        · cases h
      · cases h
    · cases h
  · cases h
theorem step_eff (hmay : mayDraw P cfs o st = true) (h : stepGO P cfs fc env ops o st = some st') (i : Nat) :
    ∃ e : Out, st' = st.out o.dst e ∧ HeIn (fpOf ops i o st) e.he ∧ ∀ st2, Agree (fpOf ops i o st) st st2 → stepGO P cfs fc env ops o st2 = some (st2.out o.dst e) ∧ mayDraw P cfs o st2 = true := by
  -- what is drawn may be drawn there, too
  have hmd : ∀ st2, Agree (fpOf ops i o st) st st2 → mayDraw P cfs o st2 = true := fun st2 A => by
    rw [← hmay]
    unfold mayDraw
    cases hpk : isPick o.op with
    | some _ => rfl
    | none =>
      cases hcall : isCall o.op with
      | none => rfl
      | some va =>
        obtain ⟨v, as⟩ := va
        obtain ⟨c0, ho, hc0, hargs0⟩ : ∃ c0, o.op = .call c0 ∧ c0.callee = .value v ∧ c0.args.toList = as := by
          unfold isCall at hcall
          split at hcall
          · rename_i c0 hop
            split at hcall
            · rename_i vv hcv
              cases hcall
              exact ⟨c0, hop, hcv, rfl⟩
            · cases hcall
          · cases hcall
        have hev : st2.ev v = st.ev v := A.ev (by rw [ho]; show v ∈ (match c0.callee with | .value v => [v] | _ => []) ++ _; rw [hc0]; simp)
        have heas : as.map st2.ev = as.map st.ev := List.map_congr_left fun x hx => A.ev (by rw [ho]; exact List.mem_append_right _ (by rw [hargs0]; exact hx))
        simp only [hev, heas]
  have one : ∀ st', stepO P cfs fc env o st = some st' → ∃ e : Out, st' = st.out o.dst e ∧ HeIn (fpOf ops i o st) e.he ∧ ∀ st2, Agree (fpOf ops i o st) st st2 → stepO P cfs fc env o st2 = some (st2.out o.dst e) := fun st' h => by
    unfold stepO at h
    split at h
    · rename_i hput
      cases hpk : isPick o.op with
      | some cab =>
        obtain ⟨c, x, y⟩ := cab
        rw [hpk] at h
        simp only at h
        have ho : o.op = .pick c x y := by
          unfold isPick at hpk
          split at hpk
          · injection hpk with hp; injection hp with h1 h2; injection h2 with h2 h3; subst h1; subst h2; subst h3; assumption
          · cases hpk
        split at h
        · rename_i d hc
          cases h
          refine ⟨⟨if d.toBool = true then cast P o.type (st.ev x) else cast P o.type (st.ev y), .none⟩, ?_, trivial, fun st2 A => ?_⟩
          · show _ = st.put o.dst _
            split <;> rfl
          · unfold stepO
            rw [A.may, if_pos hput, hpk]
            simp only
            rw [A.ev (x := c) (by rw [ho]; simp [opsOf]), A.ev (x := x) (by rw [ho]; simp [opsOf]), A.ev (x := y) (by rw [ho]; simp [opsOf]), hc]
            simp only
            show some _ = some (st2.put o.dst _)
            split <;> rfl
        · cases h
      | none =>
        rw [hpk] at h
        simp only at h
        cases hcall : isCall o.op with
        | some va =>
          obtain ⟨v, as⟩ := va
          rw [hcall] at h
          simp only at h
          split at h
          · rename_i c hc
            split at h
            · rename_i r hr
              cases h
              obtain ⟨ss, hb, hc2⟩ := callee_pure (ops := ops) (i := i) hcall hmay hpk hc
              refine ⟨_, hb r.2, trivial, fun st2 A => ?_⟩
              obtain ⟨c2, h1, h2, h3, h4, h5⟩ := hc2 st2 A
              unfold stepO
              rw [A.may, if_pos hput, hpk, hcall]
              simp only [h1, h2, h3, h4, hr]
              rw [h5]
            · cases h
          · cases h
        | none =>
          rw [hcall] at h
          simp only at h
          split at h
          · rename_i b out hcore
            split at h
            · rename_i hb
              cases h
              refine ⟨out, rfl, core_he hcore, fun st2 A => ?_⟩
              unfold stepO
              rw [A.may, if_pos hput, hpk, hcall]
              simp only [core_agree hcore A, if_pos hb]
            · cases h
          · cases h
    · cases h
  unfold stepGO at h
  cases hg : o.guard with
  | none =>
    rw [hg] at h
    simp only at h
    obtain ⟨e, h1, h2, h3⟩ := one st' h
    refine ⟨e, h1, h2, fun st2 A => ⟨?_, hmd st2 A⟩⟩
    unfold stepGO
    rw [hg]
    exact h3 st2 A
  | some jw =>
    obtain ⟨j, wt⟩ := jw
    rw [hg] at h
    simp only at h
    split at h
    · rename_i d hd
      split at h
      · rename_i hdw
        obtain ⟨e, h1, h2, h3⟩ := one st' h
        refine ⟨e, h1, h2, fun st2 A => ⟨?_, hmd st2 A⟩⟩
        unfold stepGO
        rw [hg]
        simp only
        rw [A.guard hg, hd]
        simp only
        rw [if_pos hdw]
        exact h3 st2 A
      · rename_i hdw
        split at h
        · rename_i hput
          cases h
          refine ⟨⟨.no, .none⟩, rfl, trivial, fun st2 A => ⟨?_, hmd st2 A⟩⟩
          unfold stepGO
          rw [hg]
          simp only
          rw [A.guard hg, hd]
          simp only
          rw [if_neg hdw, A.may, if_pos hput]
          rfl
        · cases h
    · rename_i hd
      split at h
      · rename_i hput
        cases h
        refine ⟨⟨.no, .none⟩, rfl, trivial, fun st2 A => ⟨?_, hmd st2 A⟩⟩
        unfold stepGO
        rw [hg]
        simp only
        rw [A.guard hg, hd]
        simp only
        rw [A.may, if_pos hput]
        rfl
      · cases h
    · cases h
end
end Go.Proofs.Ytkimdfpmblhapaa.Va

/- Operations in any order: each comes to the same. -/
set_option linter.unusedVariables false
set_option linter.unusedSimpArgs false
namespace Go.Proofs.Ytkimdfpmblhapaa.Va
open Go.RowKit

theorem apartL_spec {a b : List Nat} (h : apartL a b = true) : ∀ x, x ∈ a → x ∉ b := fun x hx => by
  have := List.all_eq_true.1 h x hx
  simpa using this
structure Apart (f g : FP) : Prop where
  l1 : ∀ d, f.dst = some d → d ∉ g.look
  l2 : ∀ d, g.dst = some d → d ∉ f.look
  ne : ∀ d, f.dst = some d → g.dst ≠ some d
  H : (f.wh = true ∨ g.wh = true) → ∀ x, x ∈ f.H → x ∉ g.H
  T : (f.wt = true ∨ g.wt = true) → ∀ x, x ∈ f.T → x ∉ g.T
theorem apartP_spec {f g : FP} (h : apartP f g = true) : Apart f g := by
  unfold apartP at h
  simp only [Bool.and_eq_true] at h
  obtain ⟨⟨⟨⟨h1, h2⟩, h3⟩, h4⟩, h5⟩ := h
  refine ⟨fun d hd => ?_, fun d hd => ?_, fun d hd => ?_, fun hw => ?_, fun hw => ?_⟩
  · rw [hd] at h1
    have : (!g.look.contains d) = true := h1
    simpa using this
  · rw [hd] at h2
    have : (!f.look.contains d) = true := h2
    simpa using this
  · intro he
    rw [hd, he] at h3
    have : (!(d == d)) = true := h3
    simp at this
  · have : (f.wh || g.wh) = true := by rcases hw with h | h <;> simp [h]
    rw [this] at h4
    exact apartL_spec (by simpa using h4)
  · have : (f.wt || g.wt) = true := by rcases hw with h | h <;> simp [h]
    rw [this] at h5
    exact apartL_spec (by simpa using h5)
theorem Apart.symm {f g : FP} (h : Apart f g) : Apart g f :=
  ⟨h.l2, h.l1, fun d hd he => h.ne d he hd, fun hw x hx hy => h.H hw.symm x hy hx, fun hw x hx hy => h.T hw.symm x hy hx⟩
section
variable {P : Program} {cfs : FuncId → Nat → FCfg} {fc : FCfg} {env : Env} {ops : List Oper} {i : Nat} {o : Oper} {st st1 st2 st' : St}
theorem put_getD (st : St) (dst : Option Tmp) (v : AV) {s : Nat} (h : dst ≠ some s) : (st.put dst v).fr.getD s .undef = st.fr.getD s .undef := by
  cases dst with
  | none => rfl
  | some d =>
    show (st.fr.set d (norm v)).getD s .undef = _
    rw [getD_set, if_neg (fun hh => h (by rw [hh.1]))]
theorem out_hp {e : Out} {dst : Option Tmp} {n : Nat} (h : ∀ m ob, e.he = .ob m ob → m ≠ n) : (st.out dst e).hp.getD n none = st.hp.getD n none := by
  unfold St.out
  rw [St.put_hp]
  cases he : e.he with
  | none => rfl
  | ob m ob =>
    show (st.hp.set m (some ob)).getD n none = _
    rw [getD_set, if_neg (fun hh => h m ob he hh.1)]
  | app was now => cases was <;> rfl
theorem out_tk {e : Out} {dst : Option Tmp} {n : Nat} (h : ∀ was now, e.he = .app was now → now ≠ n ∧ was ≠ some n) : (st.out dst e).tk.getD n none = st.tk.getD n none := by
  unfold St.out
  rw [St.put_tk]
  cases he : e.he with
  | none => rfl
  | ob m ob => rfl
  | app was now =>
    obtain ⟨h1, h2⟩ := h was now he
    cases was with
    | none =>
      show (st.tk.set now (some true)).getD n none = _
      rw [getD_set, if_neg (fun hh => h1 hh.1)]
    | some m =>
      show ((st.tk.set m (some false)).set now (some true)).getD n none = _
      rw [getD_set, if_neg (fun hh => h1 hh.1), getD_set, if_neg (fun hh => h2 (by rw [hh.1]))]
theorem out_same (st : St) (dst : Option Tmp) (e : Out) : Same st (st.out dst e) := (Same.on st e.he).trans (Same.put _ _ _)
/-- What one operation does is nothing to another that is apart from it. -/
theorem agree_out {f g : FP} (A : Apart f g) {e : Out} (hf : HeIn f e.he) (st : St) : Agree g (st.out f.dst e) st ∧ Agree g st (st.out f.dst e) := by
  have hs := out_same st f.dst e
  have h1 : ∀ s ∈ g.look, (st.out f.dst e).fr.getD s .undef = st.fr.getD s .undef := fun s hs => by
    unfold St.out
    rw [put_getD _ _ _ (fun hd => A.l1 s hd hs), HE.on_fr]
  have h2 : ∀ n ∈ g.H, (st.out f.dst e).hp.getD n none = st.hp.getD n none := fun n hn => out_hp fun m ob he hmn => by
    rw [he] at hf
    subst hmn
    exact A.H (.inl hf.2) m hf.1 hn
  have h3 : ∀ n ∈ g.T, (st.out f.dst e).tk.getD n none = st.tk.getD n none := fun n hn => out_tk fun was now he => by
    rw [he] at hf
    exact ⟨fun h => A.T (.inl hf.2.2) now hf.1 (h ▸ hn), fun h => A.T (.inl hf.2.2) n (hf.2.1 n h) hn⟩
  exact ⟨⟨⟨hs.nb.symm, hs.tb.symm, hs.fr.symm, hs.hp.symm, hs.tk.symm, hs.prot.symm, hs.protM.symm, hs.protS.symm, hs.protT.symm⟩, fun s hs => (h1 s hs).symm, fun n hn => (h2 n hn).symm, fun n hn => (h3 n hn).symm⟩, ⟨hs, h1, h2, h3⟩⟩
theorem fp_agree (A : Agree (fpOf ops i o st) st st2) : fpOf ops i o st2 = fpOf ops i o st := by
  have hn : ∀ l : List Operand, (∀ x ∈ l, st2.ev x = st.ev x) → namesOf st2 l = namesOf st l ∧ marksOf st2 l = marksOf st l := by
    intro l
    induction l with
    | nil => intro _; exact ⟨rfl, rfl⟩
    | cons x r ih =>
      intro h
      obtain ⟨h1, h2⟩ := ih fun y hy => h y (List.mem_cons_of_mem _ hy)
      unfold namesOf marksOf
      rw [h x List.mem_cons_self, h1, h2]
      exact ⟨rfl, rfl⟩
  obtain ⟨h1, h2⟩ := hn (opsOf o.op) fun x hx => A.ev hx
  unfold fpOf
  rw [h1, h2, A.same.nb, A.same.tb]
/-- Two effects that do not meet. -/
theorem out_comm {f g : FP} (A : Apart f g) {e e' : Out} (hf : HeIn f e.he) (hg : HeIn g e'.he) (st : St) : (st.out f.dst e).out g.dst e' = (st.out g.dst e').out f.dst e := by
  have hhp : (e'.he.on (e.he.on st)).hp = (e.he.on (e'.he.on st)).hp ∧ (e'.he.on (e.he.on st)).tk = (e.he.on (e'.he.on st)).tk := by
    cases he : e.he with
    | none => exact ⟨rfl, rfl⟩
    | ob n o =>
      rw [he] at hf
      cases he' : e'.he with
      | none => exact ⟨rfl, rfl⟩
      | ob n' o' =>
        rw [he'] at hg
        have hne : n ≠ n' := fun h => A.H (.inl hf.2) n hf.1 (h ▸ hg.1)
        exact ⟨List.set_comm _ _ hne, rfl⟩
      | app was now => cases was <;> exact ⟨rfl, rfl⟩
    | app was now =>
      rw [he] at hf
      cases he' : e'.he with
      | none => exact ⟨rfl, rfl⟩
      | ob n' o' => cases was <;> exact ⟨rfl, rfl⟩
      | app was' now' =>
        rw [he'] at hg
        have hT := A.T (.inl hf.2.2)
        have n1 : now ≠ now' := fun h => hT now hf.1 (h ▸ hg.1)
        cases was with
        | none =>
          cases was' with
          | none => exact ⟨rfl, List.set_comm _ _ n1⟩
          | some m' =>
            have n2 : now ≠ m' := fun h => hT now hf.1 (h ▸ hg.2.1 m' rfl)
            refine ⟨rfl, ?_⟩
            show (((st.tk.set now (some true)).set m' (some false)).set now' (some true)) = ((st.tk.set m' (some false)).set now' (some true)).set now (some true)
            rw [List.set_comm (some true) (some false) n2, List.set_comm (some true) (some true) n1]
        | some m =>
          have n3 : m ≠ now' := fun h => hT m (hf.2.1 m rfl) (h ▸ hg.1)
          cases was' with
          | none =>
            refine ⟨rfl, ?_⟩
            show (((st.tk.set m (some false)).set now (some true)).set now' (some true)) = ((st.tk.set now' (some true)).set m (some false)).set now (some true)
            rw [List.set_comm (some true) (some true) n1, List.set_comm (some false) (some true) n3]
          | some m' =>
            have n2 : now ≠ m' := fun h => hT now hf.1 (h ▸ hg.2.1 m' rfl)
            have n4 : m ≠ m' := fun h => hT m (hf.2.1 m rfl) (h ▸ hg.2.1 m' rfl)
            refine ⟨rfl, ?_⟩
            show ((((st.tk.set m (some false)).set now (some true)).set m' (some false)).set now' (some true)) = (((st.tk.set m' (some false)).set now' (some true)).set m (some false)).set now (some true)
            rw [List.set_comm (some true) (some false) n2, List.set_comm (some true) (some true) n1, List.set_comm (some false) (some false) n4, List.set_comm (some false) (some true) n3]
  have hfr : ∀ (h : HE) (s : St), (h.on s).fr = s.fr := fun h s => HE.on_fr h s
  have hpe : ∀ (s : St) (d : Option Tmp) (v : AV) (h : HE), h.on (s.put d v) = (h.on s).put d v := fun s d v h => by
    cases d with
    | none => rfl
    | some d => cases h with
      | none => rfl
      | ob n o => rfl
      | app was now => cases was <;> rfl
  have hst : e'.he.on (e.he.on st) = e.he.on (e'.he.on st) := by
    have h1 := out_same st none e
    have ext : ∀ (a b : St), Same a b → a.fr = b.fr → a.hp = b.hp → a.tk = b.tk → a = b := fun a b hs h1 h2 h3 => by
      cases a; cases b
      obtain ⟨q1, q2, _, _, _, q3, q4, q5, q6⟩ := hs
      simp only at q1 q2 q3 q4 q5 q6 h1 h2 h3
      subst q1; subst q2; subst q3; subst q4; subst q5; subst q6; subst h1; subst h2; subst h3
      rfl
    have s1 : Same st (e'.he.on (e.he.on st)) := (Same.on st e.he).trans (Same.on _ e'.he)
    have s2 : Same st (e.he.on (e'.he.on st)) := (Same.on st e'.he).trans (Same.on _ e.he)
    refine ext _ _ ⟨s2.nb.trans s1.nb.symm, s2.tb.trans s1.tb.symm, s2.fr.trans s1.fr.symm, s2.hp.trans s1.hp.symm, s2.tk.trans s1.tk.symm, s2.prot.trans s1.prot.symm, s2.protM.trans s1.protM.symm, s2.protS.trans s1.protS.symm, s2.protT.trans s1.protT.symm⟩ ?_ hhp.1 hhp.2
    rw [hfr, hfr, hfr, hfr]
  show ((e'.he.on ((e.he.on st).put f.dst e.v)).put g.dst e'.v) = ((e.he.on ((e'.he.on st).put g.dst e'.v)).put f.dst e.v)
  rw [hpe, hpe, hst]
  cases hfd : f.dst with
  | none => rfl
  | some d =>
    cases hgd : g.dst with
    | none => rfl
    | some d' =>
      have hne : d ≠ d' := fun h => A.ne d hfd (by rw [hgd, h])
      show ({ e.he.on (e'.he.on st) with fr := ((e.he.on (e'.he.on st)).fr.set d (norm e.v)).set d' (norm e'.v) } : St) = { e.he.on (e'.he.on st) with fr := ((e.he.on (e'.he.on st)).fr.set d' (norm e'.v)).set d (norm e.v) }
      rw [List.set_comm _ _ hne]
variable (P cfs fc env ops) in
def RunsL : List (Nat × Oper) → List FP → St → St → Prop
  | [], [], st, st' => st = st'
  | x :: r, f :: fr, st, st' => f = fpOf ops x.1 x.2 st ∧ mayDraw P cfs x.2 st = true ∧ ∃ s1, stepGO P cfs fc env ops x.2 st = some s1 ∧ RunsL r fr s1 st'
  | _, _, _, _ => False
theorem swap {x y : Nat × Oper} {r : List (Nat × Oper)} {fx fy : FP} {fr : List FP} (A : Apart fx fy) (h : RunsL P cfs fc env ops (x :: y :: r) (fx :: fy :: fr) st st') : RunsL P cfs fc env ops (y :: x :: r) (fy :: fx :: fr) st st' := by
  obtain ⟨rfl, m1, s1, h1, rfl, m2, s2, h2, h3⟩ := h
  obtain ⟨e1, rfl, q1, t1⟩ := step_eff m1 h1 x.1
  obtain ⟨e2, rfl, q2, t2⟩ := step_eff m2 h2 y.1
  have A1 := (agree_out A q1 st).1
  have hfy : fpOf ops y.1 y.2 st = fpOf ops y.1 y.2 (st.out x.2.dst e1) := fp_agree A1
  obtain ⟨h4, m4⟩ := t2 st A1
  have A2 := (agree_out (Apart.symm A) q2 st).2
  have A2 : Agree (fpOf ops x.1 x.2 st) st (st.out y.2.dst e2) := A2
  obtain ⟨h5, m5⟩ := t1 _ A2
  refine ⟨hfy.symm, m4, _, h4, (fp_agree A2).symm, m5, _, h5, ?_⟩
  have := out_comm A q1 q2 st
  have this : (st.out x.2.dst e1).out y.2.dst e2 = (st.out y.2.dst e2).out x.2.dst e1 := this
  rw [← this]
  exact h3
theorem front {y : Nat × Oper} {fy : FP} {l2 : List (Nat × Oper)} {f2 : List FP} : ∀ (l1 : List (Nat × Oper)) (f1 : List FP) (st : St), l1.length = f1.length → (∀ f ∈ f1, Apart f fy) → RunsL P cfs fc env ops (l1 ++ y :: l2) (f1 ++ fy :: f2) st st' → RunsL P cfs fc env ops (y :: (l1 ++ l2)) (fy :: (f1 ++ f2)) st st'
  | [], [], st, _, _, h => h
  | x :: l1, fx :: f1, st, hl, hA, h => by
    obtain ⟨h1, m1, s1, h2, h3⟩ := h
    have ih := front l1 f1 s1 (by simpa using hl) (fun f hf => hA f (List.mem_cons_of_mem _ hf)) h3
    exact swap (hA fx List.mem_cons_self) ⟨h1, m1, s1, h2, ih⟩
  | [], _ :: _, _, hl, _, _ => by cases hl
  | _ :: _, [], _, hl, _, _ => by cases hl
theorem runsL_length : ∀ (l : List (Nat × Oper)) (fs : List FP) (st : St), RunsL P cfs fc env ops l fs st st' → l.length = fs.length
  | [], [], _, _ => rfl
  | x :: r, f :: fr, st, h => by
    obtain ⟨_, _, s1, _, h⟩ := h
    simp [runsL_length r fr s1 h]
  | [], _ :: _, _, h => by cases h
  | _ :: _, [], _, h => by cases h
theorem runsL_idx : ∀ (l : List (Nat × Oper)) (fs : List FP) (st : St), RunsL P cfs fc env ops l fs st st' → fs.map (·.idx) = l.map (·.1)
  | [], [], _, _ => rfl
  | x :: r, f :: fr, st, h => by
    obtain ⟨rfl, _, s1, _, h⟩ := h
    rw [List.map_cons, List.map_cons, runsL_idx r fr s1 h]
    rfl
  | [], _ :: _, _, h => by cases h
  | _ :: _, [], _, h => by cases h
def numbered : Nat → List Oper → List (Nat × Oper)
  | _, [] => []
  | i, o :: r => (i, o) :: numbered (i + 1) r
theorem drawO_runs {bef : List (List Nat)} : ∀ (l : List Oper) (i : Nat) (acc : List FP) (st : St), drawO P cfs fc env ops bef i acc l st = some st' →
    ∃ fs, RunsL P cfs fc env ops (numbered i l) fs st st' ∧ fs.Pairwise (fun f g => pairOk bef f g = true) ∧ ∀ f ∈ acc, ∀ g ∈ fs, pairOk bef f g = true
  | [], i, acc, st, h => by
    unfold drawO at h
    cases h
    exact ⟨[], rfl, .nil, fun f _ g hg => by cases hg⟩
  | o :: r, i, acc, st, h => by
    unfold drawO at h
    split at h
    · rename_i hc
      simp only [Bool.and_eq_true] at hc
      split at h
      · rename_i s1 h1
        obtain ⟨fs, h2, h3, h4⟩ := drawO_runs r (i + 1) _ s1 h
        refine ⟨fpOf ops i o st :: fs, ⟨rfl, hc.1, s1, h1, h2⟩, .cons (fun g hg => h4 _ (List.mem_append_right _ List.mem_cons_self) g hg) h3, fun f hf g hg => ?_⟩
        rcases List.mem_cons.1 hg with hg | hg
        · subst hg; exact List.all_eq_true.1 hc.2 f hf
        · exact h4 f (List.mem_append_left _ hf) g hg
      · cases h
    · cases h
end
end Go.Proofs.Ytkimdfpmblhapaa.Va

/- Operations in any order: all orders. -/
set_option linter.unusedVariables false
set_option linter.unusedSimpArgs false
namespace Go.Proofs.Ytkimdfpmblhapaa.Va
open Go.RowKit

theorem getD_app {α : Type} (l r : List α) (n : Nat) (z : α) : (l ++ r).getD n z = if n < l.length then l.getD n z else r.getD (n - l.length) z := by
  simp only [List.getD_eq_getElem?_getD]
  split
  · rename_i h; rw [List.getElem?_append_left h]
  · rename_i h; rw [List.getElem?_append_right (by omega)]
theorem mem_edges {o : Oper} {j : Nat} : j ∈ edgesOf o ↔ ∃ e ∈ o.after.toList, Region.binds .any e = true ∧ e.on = j := by
  unfold edgesOf
  rw [List.mem_filterMap]
  constructor
  · rintro ⟨e, h1, h2⟩
    split at h2
    · rename_i hb; cases h2; exact ⟨e, h1, hb, rfl⟩
    · cases h2
  · rintro ⟨e, h1, h2, rfl⟩
    exact ⟨e, h1, if_pos h2⟩
theorem befAll_old : ∀ (r : List Oper) (acc : List (List Nat)) (j : Nat), j < acc.length → (befAll acc r).getD j [] = acc.getD j []
  | [], acc, j, h => rfl
  | o :: r, acc, j, h => by
    unfold befAll
    rw [befAll_old r _ j (by simp; omega), getD_app, if_pos h]
theorem befAll_new : ∀ (r : List Oper) (acc : List (List Nat)) (k : Nat) (o : Oper), r[k]? = some o → ∀ a, a ∈ (befAll acc r).getD (acc.length + k) [] → a ∈ edgesOf o ∨ ∃ j ∈ edgesOf o, a ∈ (befAll acc r).getD j []
  | [], acc, k, o, h, a, ha => by simp at h
  | o' :: r, acc, 0, o, h, a, ha => by
    simp at h
    subst h
    unfold befAll at ha ⊢
    rw [befAll_old r _ _ (by simp)] at ha
    rw [getD_app, if_neg (by simp)] at ha
    simp only [Nat.add_zero, Nat.sub_self] at ha
    rw [show ([edgesOf o' ++ (edgesOf o').flatMap fun j => acc.getD j []] : List (List Nat)).getD 0 [] = edgesOf o' ++ (edgesOf o').flatMap fun j => acc.getD j [] from rfl] at ha
    rcases List.mem_append.1 ha with ha | ha
    · exact .inl ha
    · obtain ⟨j, h1, h2⟩ := List.mem_flatMap.1 ha
      refine .inr ⟨j, h1, ?_⟩
      have hj : j < acc.length := by
        rcases Nat.lt_or_ge j acc.length with h | h
        · exact h
        · rw [List.getD_eq_getElem?_getD, List.getElem?_eq_none h] at h2; cases h2
      rw [befAll_old r _ j (by simp; omega), getD_app, if_pos hj]
      exact h2
  | o' :: r, acc, k + 1, o, h, a, ha => by
    unfold befAll at ha ⊢
    have := befAll_new r (acc ++ [edgesOf o' ++ (edgesOf o').flatMap fun j => acc.getD j []]) k o (by simpa using h) a (by
      rw [List.length_append, List.length_singleton, show acc.length + 1 + k = acc.length + (k + 1) by omega]
      exact ha)
    exact this
theorem lexOk_spec : ∀ (r : List Oper) (i k : Nat) (o : Oper), lexOk i r = true → r[k]? = some o → ∀ j ∈ edgesOf o, j < i + k
  | [], i, k, o, h, hk => by simp at hk
  | o' :: r, i, 0, o, h, hk => by
    simp at hk
    subst hk
    unfold lexOk at h
    simp only [Bool.and_eq_true] at h
    exact fun j hj => by simpa using List.all_eq_true.1 h.1 j hj
  | o' :: r, i, k + 1, o, h, hk => by
    unfold lexOk at h
    simp only [Bool.and_eq_true] at h
    have := lexOk_spec r (i + 1) k o h.2 (by simpa using hk)
    intro j hj
    have := this j hj
    omega
theorem numbered_mem : ∀ (l : List Oper) (i j : Nat) (o : Oper), (j, o) ∈ numbered i l ↔ i ≤ j ∧ l[j - i]? = some o
  | [], i, j, o => by simp [numbered]
  | o' :: r, i, j, o => by
    unfold numbered
    rw [List.mem_cons, numbered_mem r (i + 1) j o]
    constructor
    · rintro (h | ⟨h1, h2⟩)
      · cases h; exact ⟨Nat.le_refl _, by simp⟩
      · exact ⟨by omega, by rw [show j - i = (j - (i + 1)) + 1 by omega]; simpa using h2⟩
    · rintro ⟨h1, h2⟩
      rcases Nat.lt_or_ge i j with h | h
      · exact .inr ⟨h, by rw [show j - i = (j - (i + 1)) + 1 by omega] at h2; simpa using h2⟩
      · have : j = i := by omega
        subst this
        rw [Nat.sub_self] at h2
        simp at h2
        exact .inl (by rw [h2])
theorem numbered_sorted : ∀ (l : List Oper) (i : Nat), (numbered i l).Pairwise (fun a b => a.1 < b.1)
  | [], i => .nil
  | o :: r, i => .cons (fun x hx => by
      obtain ⟨j, o'⟩ := x
      have := (numbered_mem r (i + 1) j o').1 hx
      exact this.1) (numbered_sorted r (i + 1))
theorem numbered_length : ∀ (l : List Oper) (i : Nat), (numbered i l).length = l.length
  | [], i => rfl
  | o :: r, i => by simp [numbered, numbered_length r]
section
variable {P : Program} {cfs : FuncId → Nat → FCfg} {fc : FCfg} {env : Env} {ops : Array Oper} {X : Nat → Nat → Prop} {w0 : World} {g0 : Gho} {st st' : St} {a a0 : Act} {w : World} {Q : Exit → Act → World → Prop}
theorem mem_ready {listed : Array Bool} {i : Nat} : i ∈ Region.ready .any ops listed ↔ i < ops.size ∧ listed.getD i true = false ∧ ∃ o, ops[i]? = some o ∧ ∀ j ∈ edgesOf o, listed.getD j false = true := by
  unfold Region.ready
  rw [List.mem_filter, List.mem_range]
  constructor
  · rintro ⟨h1, h2⟩
    simp only [Bool.and_eq_true, Bool.not_eq_true'] at h2
    refine ⟨h1, h2.1, ops[i], by simp [h1], fun j hj => ?_⟩
    obtain ⟨e, h3, h4, rfl⟩ := mem_edges.1 hj
    have h5 := h2.2
    rw [Array.getElem?_eq_getElem h1] at h5
    simp only [Option.map_some, Option.getD_some] at h5
    have h6 := (Array.all_eq_true_iff_forall_mem.1 h5) e (by simpa using h3)
    simpa [h4] using h6
  · rintro ⟨h1, h2, o, h3, h4⟩
    refine ⟨h1, ?_⟩
    simp only [Bool.and_eq_true, Bool.not_eq_true']
    refine ⟨h2, ?_⟩
    rw [h3]
    simp only [Option.map_some, Option.getD_some]
    refine Array.all_eq_true_iff_forall_mem.2 fun e he => ?_
    cases hb : Region.binds .any e with
    | false => rfl
    | true =>
      have := h4 e.on (mem_edges.2 ⟨e, by simpa using he, hb, rfl⟩)
      simpa using this
theorem any_sound (henv : CallOk P cfs env) (hlex : lexOk 0 ops.toList = true) (hK : ∀ g' a' w', Rel P X w0 g0 g' st' a' w' → (∀ i, i ∈ st'.protS → a'.tmps.getD i undef = a0.tmps.getD i undef) → Q .normal a' w') :
    ∀ (fuel : Nat) (l : List (Nat × Oper)) (fs : List FP) (listed : Array Bool) (st : St) (g : Gho) (a : Act) (w : World), l.length ≤ fuel →
    listed.size = ops.size → (∀ j, j < ops.size → (listed.getD j true = false ↔ ∃ o, (j, o) ∈ l)) → (∀ j o, (j, o) ∈ l → ops[j]? = some o) → l.Pairwise (fun a b => a.1 < b.1) →
    (∀ j, listed.getD j false = true → ∀ k ∈ (befAll [] ops.toList).getD j [], listed.getD k false = true) →
    fs.Pairwise (fun f g => pairOk (befAll [] ops.toList) f g = true) → RunsL P cfs fc env ops.toList l fs st st' → Rel P X w0 g0 g st a w → (∀ i, i ∈ st.protS → a.tmps.getD i undef = a0.tmps.getD i undef) →
    wpAny P .any ops Q fuel listed a w := by
  -- what is done when nothing is left
  have last : ∀ (fs : List FP) (st : St) (g : Gho) (a : Act) (w : World), RunsL P cfs fc env ops.toList [] fs st st' → Rel P X w0 g0 g st a w → (∀ i, i ∈ st.protS → a.tmps.getD i undef = a0.tmps.getD i undef) → Q .normal a w := fun fs st g a w h hr hS => by
    cases fs with
    | nil =>
      have h : st = st' := h
      subst h
      exact hK g a w hr hS
    | cons _ _ => cases h
  have none_ready : ∀ (l : List (Nat × Oper)) (listed : Array Bool), listed.size = ops.size → (∀ j, j < ops.size → (listed.getD j true = false ↔ ∃ o, (j, o) ∈ l)) → (∀ j o, (j, o) ∈ l → ops[j]? = some o) → l.Pairwise (fun a b => a.1 < b.1) →
      Region.ready .any ops listed = [] → l = [] := fun l listed hsz hl hops hsort hrd => by
    cases l with
    | nil => rfl
    | cons x r =>
      exfalso
      obtain ⟨i, o⟩ := x
      have hio := hops i o List.mem_cons_self
      have hi : i < ops.size := (Array.getElem?_eq_some_iff.1 hio).1
      have : i ∈ Region.ready .any ops listed := mem_ready.2 ⟨hi, (hl i hi).2 ⟨o, List.mem_cons_self⟩, o, hio, fun j hj => by
        have hji := lexOk_spec ops.toList 0 i o hlex (by simpa using hio) j hj
        rw [Nat.zero_add] at hji
        have hjs : j < ops.size := by omega
        have hn : ¬ ∃ o', (j, o') ∈ ((i, o) :: r) := fun ⟨o', h⟩ => by
          rcases List.mem_cons.1 h with h | h
          · cases h; omega
          · have := List.rel_of_pairwise_cons hsort h
            have : i < j := this
            omega
        have := mt (hl j hjs).1 hn
        rw [Array.getD_eq_getD_getElem?, Array.getElem?_eq_getElem (by omega)] at this ⊢
        simpa using this⟩
      rw [hrd] at this
      cases this
  intro fuel
  induction fuel with
  | zero =>
    intro l fs listed st g a w hlen hsz hl hops hsort hdown hpw hruns hr hS
    have hl0 : l = [] := List.eq_nil_of_length_eq_zero (by omega)
    subst hl0
    refine ⟨?_, last fs st g a w hruns hr hS⟩
    apply List.eq_nil_iff_forall_not_mem.2
    intro i hi
    obtain ⟨h1, h2, _⟩ := mem_ready.1 hi
    obtain ⟨o, h3⟩ := (hl i h1).1 h2
    cases h3
  | succ fuel ih =>
    intro l fs listed st g a w hlen hsz hl hops hsort hdown hpw hruns hr hS
    refine ⟨fun hrd => ?_, fun i hi => ?_⟩
    · have := none_ready l listed hsz hl hops hsort hrd
      subst this
      exact last fs st g a w hruns hr hS
    · obtain ⟨hin, hun, o, hio, hedge⟩ := mem_ready.1 hi
      obtain ⟨o', hmem⟩ := (hl i hin).1 hun
      have hoo : o' = o := by have := hops i o' hmem; rw [hio] at this; cases this; rfl
      subst hoo
      obtain ⟨l1, l2, rfl⟩ := List.append_of_mem hmem
      -- the footprints' parts
      have hfl := runsL_length _ _ _ hruns
      have hfi := runsL_idx _ _ _ hruns
      obtain ⟨f1, fy, f2, rfl, hf1⟩ : ∃ f1 fy f2, fs = f1 ++ fy :: f2 ∧ f1.length = l1.length := by
        have hlt : l1.length < fs.length := by rw [← hfl]; simp
        refine ⟨fs.take l1.length, fs[l1.length], fs.drop (l1.length + 1), ?_, by simp; omega⟩
        rw [List.getElem_cons_drop, List.take_append_drop]
      rw [List.map_append, List.map_append, List.map_cons, List.map_cons] at hfi
      have hfi1 : f1.map (·.idx) = l1.map (·.1) := (List.append_inj hfi (by simp [hf1])).1
      have hfiy : fy.idx = i := by
        have := (List.append_inj hfi (by simp [hf1])).2
        exact (List.cons.inj this).1
      have hlisted : ∀ j, listed.getD j false = true → ∀ o, (j, o) ∉ l1 ++ (i, o') :: l2 := fun j hj o hm => by
        have hjs : j < ops.size := (Array.getElem?_eq_some_iff.1 (hops j o hm)).1
        have := (hl j hjs).2 ⟨o, hm⟩
        rw [Array.getD_eq_getD_getElem?, Array.getElem?_eq_getElem (by omega)] at this hj
        simp at this hj
        rw [this] at hj
        cases hj
      have hbef : ∀ k ∈ (befAll [] ops.toList).getD i [], listed.getD k false = true := fun k hk => by
        rcases befAll_new ops.toList [] i o' (by simpa using hio) k (by simpa using hk) with h | ⟨j, h1, h2⟩
        · exact hedge k h
        · exact hdown j (hedge j h1) k h2
      have hap : ∀ f ∈ f1, Apart f fy := fun f hf => by
        have hp : pairOk (befAll [] ops.toList) f fy = true := by
          rw [List.pairwise_append] at hpw
          exact hpw.2.2 f hf fy List.mem_cons_self
        unfold pairOk at hp
        rw [Bool.or_eq_true] at hp
        rcases hp with hp | hp
        · exfalso
          rw [hfiy] at hp
          have hfm : f.idx ∈ (befAll [] ops.toList).getD i [] := by simpa using hp
          have h1 := hbef _ hfm
          have h2 : f.idx ∈ l1.map (·.1) := by rw [← hfi1]; exact List.mem_map.2 ⟨f, hf, rfl⟩
          obtain ⟨x, h3, h4⟩ := List.mem_map.1 h2
          exact hlisted f.idx h1 x.2 (List.mem_append_left _ (by rw [← h4]; exact h3))
        · exact apartP_spec hp
      obtain ⟨hfy, hmy, s1, hs1, hrest⟩ := front l1 f1 st (by omega) hap hruns
      simp only at hs1
      have hsame := stepGO_same hs1
      have hsub : ∀ x, x ∈ l1 ++ l2 → x ∈ l1 ++ (i, o') :: l2 := fun x hx => by
        rcases List.mem_append.1 hx with h | h
        · exact List.mem_append_left _ h
        · exact List.mem_append_right _ (List.mem_cons_of_mem _ h)
      have hsort' : (l1 ++ l2).Pairwise (fun a b => a.1 < b.1) := hsort.sublist ((List.append_sublist_append_left _).2 (List.sublist_cons_self _ _))
      have hnew : ∀ j z, (listed.setIfInBounds i true).getD j z = if j = i then true else listed.getD j z := fun j z => by
        rw [agetD_set]
        by_cases hj : i = j
        · subst hj; simp [hsz, hin]
        · rw [if_neg (fun h => hj h.1), if_neg (fun h => hj h.symm)]
      have goNext : ∀ g' a' w', Rel P X w0 g0 g' s1 a' w' → (∀ k, k ∈ st.protS → a'.tmps.getD k undef = a.tmps.getD k undef) → wpAny P .any ops Q fuel (listed.setIfInBounds i true) a' w' := fun g' a' w' hr' hS' => by
        refine ih (l1 ++ l2) (f1 ++ f2) _ s1 g' a' w' ?_ (by simpa using hsz) (fun j hj => ?_) (fun j o h => hops j o (hsub _ h)) hsort' (fun j hj k hk => ?_) ?_ hrest hr' (fun k hk => ?_)
        · simp only [List.length_append, List.length_cons] at hlen ⊢; omega
        · rw [hnew]
          by_cases hji : j = i
          · rw [if_pos hji]
            subst hji
            refine ⟨fun h => (by cases h), fun ⟨o, h⟩ => ?_⟩
            exfalso
            rcases List.mem_append.1 h with h | h
            · rw [List.pairwise_append] at hsort
              have := hsort.2.2 _ h (j, o') List.mem_cons_self
              have this : j < j := this
              omega
            · rw [List.pairwise_append] at hsort
              have := List.rel_of_pairwise_cons hsort.2.1 h
              have this : j < j := this
              omega
          · rw [if_neg hji, hl j hj]
            constructor
            · rintro ⟨o, h⟩
              rcases List.mem_append.1 h with h | h
              · exact ⟨o, List.mem_append_left _ h⟩
              · rcases List.mem_cons.1 h with h | h
                · cases h; exact absurd rfl hji
                · exact ⟨o, List.mem_append_right _ h⟩
            · rintro ⟨o, h⟩
              exact ⟨o, hsub _ h⟩
        · rw [hnew]
          by_cases hki : k = i
          · rw [if_pos hki]
          · rw [if_neg hki]
            rw [hnew] at hj
            by_cases hji : j = i
            · subst hji; exact hbef k hk
            · rw [if_neg hji] at hj; exact hdown j hj k hk
        · rw [List.pairwise_append] at hpw ⊢
          exact ⟨hpw.1, (List.pairwise_cons.1 hpw.2.1).2, fun f hf g hg => hpw.2.2 f hf g (List.mem_cons_of_mem _ hg)⟩
        · rw [hsame.protS] at hk
          exact (hS' k hk).trans (hS k hk)
      have hstep := stepGO_sound' henv hs1 hr (wpAny P .any ops Q fuel (listed.setIfInBounds i true)) Q goNext
      unfold wpOp
      rw [hio]
      simp only
      split
      · rename_i hw
        rw [if_pos (by simpa using hw)] at hstep
        exact .inl hstep
      · rename_i hw
        rw [if_neg (by simpa using hw)] at hstep
        exact hstep
theorem draw_sound (henv : CallOk P cfs env) (hm : P.follows .mixedOrders = true) {id : Nat} {g : Gho} (hlex : lexOk 0 ops.toList = true) (h : drawO P cfs fc env ops.toList (befAll [] ops.toList) 0 [] ops.toList st = some st') (hr : Rel P X w0 g0 g st a w)
    (hK : ∀ g' a' w', Rel P X w0 g0 g' st' a' w' → (∀ i, i ∈ st'.protS → a'.tmps.getD i undef = a.tmps.getD i undef) → Q .normal a' w') : (Code.region id ops true).wp P Q a w := by
  obtain ⟨fs, h1, h2, _⟩ := drawO_runs ops.toList 0 [] st h
  refine wp_region_any hm ?_
  refine any_sound henv hlex hK ops.size (numbered 0 ops.toList) fs _ st g a _ (by rw [numbered_length]; simp) (by simp) (fun j hj => ?_) (fun j o hjo => ?_) (numbered_sorted _ _) (fun j hj => ?_) h2 h1 (hr.below ⟨rfl, rfl, rfl, Nat.le_refl _, fun _ _ => rfl⟩) (fun _ _ => rfl)
  · refine ⟨fun _ => ⟨ops[j], (numbered_mem _ _ _ _).2 ⟨Nat.zero_le _, by simp [hj]⟩⟩, fun _ => ?_⟩
    rw [Array.getD_eq_getD_getElem?, Array.getElem?_eq_getElem (by simpa using hj)]
    simp
  · have := ((numbered_mem _ _ _ _).1 hjo).2
    simpa using this
  · exfalso
    rw [Array.getD_eq_getD_getElem?] at hj
    by_cases hjs : j < ops.size
    · rw [Array.getElem?_eq_getElem (by simpa using hjs)] at hj; simp at hj
    · rw [Array.getElem?_eq_none (by simpa using hjs)] at hj; simp at hj
end
section
variable {P : Program} {cfs : FuncId → Nat → FCfg} {fc : FCfg} {env : Env} {ops : List Oper}
theorem drawSteps_bind {bef : List (List Nat)} : ∀ (l : List Oper) (i : Nat) (acc : List FP) (st : St) (k : St → Option R), Nrm st → drawSteps P cfs fc env ops bef i acc l st k = (drawO P cfs fc env ops bef i acc l st).bind k
  | [], i, acc, st, k, hn => rfl
  | o :: r, i, acc, st, k, hn => by
    unfold drawSteps drawO
    split
    · rw [stepG_bind hn]
      cases h : stepGO P cfs fc env ops o st with
      | none => rfl
      | some st' => exact drawSteps_bind r (i + 1) _ st' k (stepGO_nrm h hn)
    · rfl
theorem drawO_nrm {bef : List (List Nat)} : ∀ (l : List Oper) (i : Nat) (acc : List FP) (st st' : St), drawO P cfs fc env ops bef i acc l st = some st' → Nrm st → Nrm st'
  | [], i, acc, st, st', h, hn => by unfold drawO at h; cases h; exact hn
  | o :: r, i, acc, st, st', h, hn => by
    unfold drawO at h
    split at h
    · split at h
      · rename_i h1; exact drawO_nrm r _ _ _ _ h (stepGO_nrm h1 hn)
      · cases h
    · cases h
theorem drawO_same {bef : List (List Nat)} : ∀ (l : List Oper) (i : Nat) (acc : List FP) (st st' : St), drawO P cfs fc env ops bef i acc l st = some st' → Same st st'
  | [], i, acc, st, st', h => by unfold drawO at h; cases h; exact .refl _
  | o :: r, i, acc, st, st', h => by
    unfold drawO at h
    split at h
    · split at h
      · rename_i h1; exact (stepGO_same h1).trans (drawO_same r _ _ _ _ h)
      · cases h
    · cases h
theorem stepsD_bind {draw : Bool} {st : St} {k : St → Option R} (hn : Nrm st) : stepsD P cfs fc env draw ops st k = (stepsDO P cfs fc env draw ops st).bind k := by
  unfold stepsD stepsDO
  cases draw with
  | false => exact steps_bind _ _ _ hn
  | true =>
    simp only [if_true]
    split
    · exact drawSteps_bind _ _ _ _ _ hn
    · rfl
theorem stepsDO_nrm {draw : Bool} {st st' : St} (h : stepsDO P cfs fc env draw ops st = some st') (hn : Nrm st) : Nrm st' := by
  unfold stepsDO at h
  cases draw with
  | false => exact stepsO_nrm _ _ _ h hn
  | true =>
    simp only [if_true] at h
    split at h
    · exact drawO_nrm _ _ _ _ _ h hn
    · cases h
theorem stepsDO_same {draw : Bool} {st st' : St} (h : stepsDO P cfs fc env draw ops st = some st') : Same st st' := by
  unfold stepsDO at h
  cases draw with
  | false => exact stepsO_same _ _ _ h
  | true =>
    simp only [if_true] at h
    split at h
    · exact drawO_same _ _ _ _ _ h
    · cases h
end
end Go.Proofs.Ytkimdfpmblhapaa.Va

/- What is kept while a loop runs; what goes in and out: lists. -/
set_option linter.unusedVariables false
set_option linter.unusedSimpArgs false
namespace Go.Proofs.Ytkimdfpmblhapaa.Va
open Go.RowKit

theorem getD_cons_zero {α : Type} (a : α) (l : List α) (z : α) : (a :: l).getD 0 z = a := rfl
theorem getD_cons_succ {α : Type} (a : α) (l : List α) (n : Nat) (z : α) : (a :: l).getD (n + 1) z = l.getD n z := rfl
theorem getD_nil {α : Type} (n : Nat) (z : α) : ([] : List α).getD n z = z := by cases n <;> rfl
theorem keepAV_undef (qo : Nat → Bool) : keepAV qo .undef = .undef := rfl
theorem keepAV_cases (qo : Nat → Bool) (a : AV) : keepAV qo a = .undef ∨ (keepAV qo a = a ∧ (∀ l, a ≠ .tup l) ∧ (avNames a).all qo = true) := by
  cases a with
  | tup l => exact .inl rfl
  | dt s d aps =>
    by_cases h : (avNames (.dt s d aps)).all qo = true
    · exact .inr ⟨by show (if (avNames (.dt s d aps)).all qo = true then _ else _) = _; rw [if_pos h], by simp, h⟩
    · exact .inl (by show (if (avNames (.dt s d aps)).all qo = true then _ else _) = _; rw [if_neg h])
  | _ => exact .inr ⟨rfl, by simp, rfl⟩
theorem keepS_getD (q qo : Nat → Bool) : ∀ (l : List AV) (k i : Nat), (keepS q qo k l).getD i .undef = if q (k + i) = true then keepAV qo (l.getD i .undef) else .undef
  | [], k, i => by simp [keepS, getD_nil, keepAV_undef]
  | a :: r, k, 0 => by unfold keepS; simp only [getD_cons_zero, Nat.add_zero]
  | a :: r, k, i + 1 => by unfold keepS; rw [getD_cons_succ, getD_cons_succ, keepS_getD q qo r (k + 1) i, show k + 1 + i = k + (i + 1) by omega]
theorem keepS_length (q qo : Nat → Bool) : ∀ (l : List AV) (k : Nat), (keepS q qo k l).length = l.length
  | [], k => rfl
  | a :: r, k => by unfold keepS; simp [keepS_length q qo r]
theorem keepO_getD (q : Nat → Bool) (vo : List Nat) : ∀ (l : List (Option Ob)) (k n : Nat), (keepO q vo k l).getD n none = match l.getD n none with | none => none | some o => if vo.contains (k + n) = true then some (blank o) else if q (k + n) = true then some o else none
  | [], k, n => by simp [keepO, getD_nil]
  | none :: r, k, 0 => rfl
  | some o :: r, k, 0 => by unfold keepO; simp only [getD_cons_zero, Nat.add_zero]
  | none :: r, k, n + 1 => by unfold keepO; rw [getD_cons_succ, getD_cons_succ, keepO_getD q vo r (k + 1) n, show k + 1 + n = k + (n + 1) by omega]
  | some o :: r, k, n + 1 => by unfold keepO; rw [getD_cons_succ, getD_cons_succ, keepO_getD q vo r (k + 1) n, show k + 1 + n = k + (n + 1) by omega]
theorem keepO_length (q : Nat → Bool) (vo : List Nat) : ∀ (l : List (Option Ob)) (k : Nat), (keepO q vo k l).length = l.length
  | [], k => rfl
  | none :: r, k => by unfold keepO; simp [keepO_length q vo r]
  | some o :: r, k => by unfold keepO; simp [keepO_length q vo r]
theorem someS_mem : ∀ (l : List AV) (k i : Nat), l.getD i .undef ≠ .undef → k + i ∈ someS k l
  | [], k, i, h => absurd (getD_nil _ _) h
  | a :: r, k, 0, h => by
    rw [getD_cons_zero] at h
    unfold someS
    split
    · rename_i h1; cases h1
    · rename_i h1; cases h1; exact absurd rfl h
    · rename_i h1; cases h1; exact List.mem_cons_self
  | a :: r, k, i + 1, h => by
    rw [getD_cons_succ] at h
    have := someS_mem r (k + 1) i h
    rw [show k + 1 + i = k + (i + 1) by omega] at this
    unfold someS
    split
    · rename_i h1; cases h1
    · rename_i h1; cases h1; exact this
    · rename_i h1; cases h1; exact List.mem_cons_of_mem _ this
theorem someO_mem : ∀ (l : List (Option Ob)) (k n : Nat) (o : Ob), l.getD n none = some o → k + n ∈ someO k l
  | [], k, n, o, h => by rw [getD_nil] at h; cases h
  | none :: r, k, 0, o, h => by rw [getD_cons_zero] at h; cases h
  | some o' :: r, k, 0, o, h => by unfold someO; exact List.mem_cons_self
  | none :: r, k, n + 1, o, h => by
    have := someO_mem r (k + 1) n o h
    rw [show k + 1 + n = k + (n + 1) by omega] at this
    unfold someO; exact this
  | some o' :: r, k, n + 1, o, h => by
    have := someO_mem r (k + 1) n o h
    rw [show k + 1 + n = k + (n + 1) by omega] at this
    unfold someO; exact List.mem_cons_of_mem _ this
theorem liveOnes_mem : ∀ (l : List (Option Bool)) (k n : Nat), l.getD n none = some true → k + n ∈ liveOnes k l
  | [], k, n, h => by rw [getD_nil] at h; cases h
  | a :: r, k, 0, h => by rw [getD_cons_zero] at h; subst h; unfold liveOnes; exact List.mem_cons_self
  | a :: r, k, n + 1, h => by
    have := liveOnes_mem r (k + 1) n h
    rw [show k + 1 + n = k + (n + 1) by omega] at this
    unfold liveOnes
    split
    · rename_i h1; cases h1
    · rename_i h1; cases h1; exact List.mem_cons_of_mem _ this
    · rename_i h1; cases h1; exact this
theorem mem_liveOnes : ∀ (l : List (Option Bool)) (k x : Nat), x ∈ liveOnes k l → ∃ n, x = k + n ∧ l.getD n none = some true
  | [], k, x, h => by unfold liveOnes at h; cases h
  | a :: r, k, x, h => by
    unfold liveOnes at h
    split at h
    · rename_i h1; cases h1
    · rename_i h1
      cases h1
      rcases List.mem_cons.1 h with h | h
      · exact ⟨0, h, rfl⟩
      · obtain ⟨n, h1, h2⟩ := mem_liveOnes r (k + 1) x h
        exact ⟨n + 1, by omega, h2⟩
    · rename_i h1
      cases h1
      obtain ⟨n, h1, h2⟩ := mem_liveOnes r (k + 1) x h
      exact ⟨n + 1, by omega, h2⟩
theorem deadOnes_mem : ∀ (l : List (Option Bool)) (k n : Nat), l.getD n none = some false → k + n ∈ deadOnes k l
  | [], k, n, h => by rw [getD_nil] at h; cases h
  | a :: r, k, 0, h => by rw [getD_cons_zero] at h; subst h; unfold deadOnes; exact List.mem_cons_self
  | a :: r, k, n + 1, h => by
    have := deadOnes_mem r (k + 1) n h
    rw [show k + 1 + n = k + (n + 1) by omega] at this
    unfold deadOnes
    split
    · rename_i h1; cases h1
    · rename_i h1; cases h1; exact List.mem_cons_of_mem _ this
    · rename_i h1; cases h1; exact this
theorem kill_getD : ∀ (ms : List Nat) (tk : List (Option Bool)) (m : Nat), (dropAll.kill tk ms).getD m none = if m ∈ ms ∧ m < tk.length then some false else tk.getD m none
  | [], tk, m => by unfold dropAll.kill; simp
  | x :: r, tk, m => by
    unfold dropAll.kill
    rw [kill_getD r, List.length_set, getD_tk]
    by_cases h1 : m ∈ r ∧ m < tk.length
    · rw [if_pos h1, if_pos ⟨List.mem_cons_of_mem _ h1.1, h1.2⟩]
    · rw [if_neg h1]
      by_cases h2 : x = m ∧ m < tk.length
      · rw [if_pos h2, if_pos ⟨by rw [h2.1]; exact List.mem_cons_self, h2.2⟩]
      · rw [if_neg h2, if_neg]
        rintro ⟨h3, h4⟩
        rcases List.mem_cons.1 h3 with h5 | h5
        · exact h2 ⟨h5.symm, h4⟩
        · exact h1 ⟨h5, h4⟩
theorem getD_lt {α : Type} {l : List α} {i : Nat} {z : α} (h : l.getD i z ≠ z) : i < l.length := by
  rcases Nat.lt_or_ge i l.length with h1 | h1
  · exact h1
  · exact absurd (by simp [List.getElem?_eq_none h1]) h
/-- What is kept. -/
structure Kept (st b : St) (ms : List Nat) : Prop where
  slot : ∀ i, b.fr.getD i .undef = .undef ∨ (b.fr.getD i .undef = dropAV ms (st.fr.getD i .undef) ∧ (∀ l, st.fr.getD i .undef ≠ .tup l) ∧ (∀ n ∈ avNames (st.fr.getD i .undef), b.has n = true) ∧ i ∈ b.protS)
  objs : ∀ n o, b.hp.getD n none = some o → n ∈ b.protM ∧ ∃ o0 o1, st.hp.getD n none = some o0 ∧ dropOb ms (some o0) = some o1 ∧ ((n ∈ b.prot ∧ o = o1) ∨ (n ∉ b.prot ∧ o = blank o1))
  tk : ∀ m, (b.tk.getD m none = some true ∧ st.tk.getD m none = some true ∧ m ∉ ms ∧ m ∈ b.protT) ∨ (b.tk.getD m none = none ∧ (st.tk.getD m none = none ∨ m ∈ ms))
  nb : b.nb = st.nb
  tb : b.tb = st.tb
  lfr : b.fr.length = st.fr.length
  lhp : b.hp.length = st.hp.length
  ltk : b.tk.length = st.tk.length
  prot : ∀ n, n ∈ st.prot → n ∈ b.prot
  protM : ∀ n, n ∈ st.protM → n ∈ b.protM
  protS : ∀ n, n ∈ st.protS → n ∈ b.protS
  protT : ∀ n, n ∈ st.protT → n ∈ b.protT
theorem base_kept (st : St) (q qo : Nat → Bool) (vo : List Nat) (toks : List (Nat × Option Nat × Bool × Nat)) : Kept st (base st q qo vo toks) ((tokMarks st toks).filter (notIn st.protT) ++ deadOnes 0 st.tk) := by
  have hhp : ∀ n, (base st q qo vo toks).hp.getD n none = match (st.hp.map (dropOb ((tokMarks st toks).filter (notIn st.protT) ++ deadOnes 0 st.tk))).getD n none with | none => none | some o => if (vo.filter (notIn st.prot)).contains n = true then some (blank o) else if qo n = true then some o else none := fun n => by
    unfold base
    simp only
    rw [keepO_getD, Nat.zero_add]
  have hdo : ∀ n, (st.hp.map (dropOb ((tokMarks st toks).filter (notIn st.protT) ++ deadOnes 0 st.tk))).getD n none = dropOb ((tokMarks st toks).filter (notIn st.protT) ++ deadOnes 0 st.tk) (st.hp.getD n none) := fun n => getD_map _ _ _ _ rfl
  refine ⟨fun i => ?_, fun n o ho => ?_, fun m => ?_, rfl, rfl, ?_, ?_, ?_, fun n h => ?_, fun n h => ?_, fun n h => ?_, fun n h => ?_⟩
  · have hfr : (base st q qo vo toks).fr.getD i .undef = dropAV ((tokMarks st toks).filter (notIn st.protT) ++ deadOnes 0 st.tk) (if q i = true then keepAV (fun n => ((base st q qo vo toks).hp.getD n none).isSome) (st.fr.getD i .undef) else .undef) := by
      show ((keepS q _ 0 st.fr).map (dropAV _)).getD i .undef = _
      rw [getD_map _ _ _ _ rfl, keepS_getD, Nat.zero_add]
      rfl
    by_cases hu : (base st q qo vo toks).fr.getD i .undef = .undef
    · exact .inl hu
    · refine .inr ?_
      have hS : i ∈ (base st q qo vo toks).protS := by
        have := someS_mem _ 0 i hu
        rw [Nat.zero_add] at this
        exact List.mem_append_left _ this
      rw [hfr] at hu ⊢
      split at hu
      · rename_i hq
        rw [if_pos hq]
        rcases keepAV_cases (fun n => ((base st q qo vo toks).hp.getD n none).isSome) (st.fr.getD i .undef) with h1 | ⟨h1, h2, h3⟩
        · rw [h1] at hu; exact absurd rfl hu
        · rw [h1]
          exact ⟨rfl, h2, fun n hn => List.all_eq_true.1 h3 n hn, hS⟩
      · exact absurd rfl hu
  · have hM : n ∈ (base st q qo vo toks).protM := by
      have := someO_mem _ 0 n o ho
      rw [Nat.zero_add] at this
      exact List.mem_append_left _ this
    refine ⟨hM, ?_⟩
    have ho2 := ho
    rw [hhp, hdo] at ho2
    cases h0 : st.hp.getD n none with
    | none => rw [h0] at ho2; cases ho2
    | some o0 =>
      rw [h0] at ho2
      cases h1 : dropOb ((tokMarks st toks).filter (notIn st.protT) ++ deadOnes 0 st.tk) (some o0) with
      | none => rw [h1] at ho2; cases ho2
      | some o1 =>
        rw [h1] at ho2
        simp only at ho2
        refine ⟨o0, o1, rfl, h1, ?_⟩
        split at ho2
        · rename_i hv
          cases ho2
          refine .inr ⟨fun hp => ?_, rfl⟩
          have hv2 : n ∈ vo.filter (notIn st.prot) := by simpa using hv
          rcases List.mem_append.1 hp with hp | hp
          · have := (List.mem_filter.1 hp).2
            simp [notIn] at this
            simp [notIn] at hv2
            rcases this with h | h
            · exact h hv2.1
            · exact hv2.2 h
          · simp [notIn] at hv2
            exact hv2.2 hp
        · rename_i hv
          split at ho2
          · cases ho2
            refine .inl ⟨?_, rfl⟩
            have := someO_mem _ 0 n _ ho
            rw [Nat.zero_add] at this
            exact List.mem_append_left _ (List.mem_filter.2 ⟨this, by simp only [notIn, Bool.not_eq_true'] at hv ⊢; simpa [notIn] using hv⟩)
          · cases ho2
  · have htk : (base st q qo vo toks).tk.getD m none = onlyLive ((dropAll.kill st.tk ((tokMarks st toks).filter (notIn st.protT) ++ deadOnes 0 st.tk)).getD m none) := by
      show (((dropAll.kill st.tk _).map _).getD m none) = _
      rw [getD_map _ _ _ _ rfl]
    cases h : (base st q qo vo toks).tk.getD m none with
    | none =>
      refine .inr ⟨rfl, ?_⟩
      rw [htk, kill_getD] at h
      unfold onlyLive at h
      split at h
      · cases h
      · rename_i x hx
        split at hx
        · rename_i hm; exact .inr hm.1
        · cases hs : st.tk.getD m none with
          | none => exact .inl rfl
          | some y =>
            cases y with
            | true => rw [hs] at hx; exact absurd rfl hx
            | false =>
              refine .inr (List.mem_append_right _ ?_)
              have := deadOnes_mem _ 0 m hs
              rwa [Nat.zero_add] at this
    | some y =>
      have hy : y = true := by
        rw [htk] at h
        unfold onlyLive at h
        split at h
        · cases h; rfl
        · cases h
      subst hy
      have hT := liveOnes_mem _ 0 m h
      rw [Nat.zero_add] at hT
      rw [htk, kill_getD] at h
      unfold onlyLive at h
      split at h
      · rename_i hx
        split at hx
        · cases hx
        · rename_i hm
          refine .inl ⟨rfl, hx, fun hmm => hm ⟨hmm, ?_⟩, List.mem_append_left _ hT⟩
          exact getD_lt (z := none) (by rw [hx]; simp)
      · cases h
  · show ((keepS q _ 0 st.fr).map (dropAV _)).length = _
    rw [List.length_map, keepS_length]
  · show (keepO qo (vo.filter (notIn st.prot)) 0 _).length = _
    rw [keepO_length, List.length_map]
  · show ((dropAll.kill st.tk _).map _).length = _
    rw [List.length_map, length_kill]
  · exact List.mem_append_right _ h
  · exact List.mem_append_right _ h
  · exact List.mem_append_right _ h
  · exact List.mem_append_right _ h
end Go.Proofs.Ytkimdfpmblhapaa.Va

/- What goes into a loop and out of it: lists. -/
set_option linter.unusedVariables false
set_option linter.unusedSimpArgs false
namespace Go.Proofs.Ytkimdfpmblhapaa.Va
open Go.RowKit

theorem nodup_cons {a : Nat} {r : List Nat} (h : nodup (a :: r) = true) : a ∉ r ∧ nodup r = true := by
  unfold nodup at h
  simp only [Bool.and_eq_true, Bool.not_eq_true'] at h
  exact ⟨by simpa using h.1, h.2⟩
theorem nodup_app : ∀ {l r : List Nat}, nodup (l ++ r) = true → nodup l = true ∧ nodup r = true ∧ ∀ x, x ∈ l → x ∉ r
  | [], r, h => ⟨rfl, h, fun x hx => by cases hx⟩
  | a :: l, r, h => by
    obtain ⟨h1, h2⟩ := nodup_cons h
    obtain ⟨h3, h4, h5⟩ := nodup_app h2
    refine ⟨?_, h4, fun x hx => ?_⟩
    · unfold nodup
      simp only [Bool.and_eq_true, Bool.not_eq_true']
      exact ⟨by simpa using fun h => h1 (List.mem_append_left _ h), h3⟩
    · rcases List.mem_cons.1 hx with h | h
      · subst h; exact fun h => h1 (List.mem_append_right _ h)
      · exact h5 x h
section
variable {P : Program}
def slotAV (P : Program) (t : TypeId) (d : D) : AV := match shp P t with | some s => cast P t (.dt s d (roAps s.ks)) | none => .undef
theorem unS_length : ∀ (slots : List (Nat × TypeId)) (ds : List D) (k : Nat) (fr : List AV), (unS P slots ds k fr).length = fr.length
  | [], ds, k, fr => rfl
  | (i, t) :: r, ds, k, fr => by unfold unS; rw [unS_length r]; simp
theorem unS_getD (i : Nat) : ∀ (slots : List (Nat × TypeId)) (ds : List D) (k : Nat) (fr : List AV), nodup (slots.map (·.1)) = true →
    (i ∉ slots.map (·.1) ∧ (unS P slots ds k fr).getD i .undef = fr.getD i .undef) ∨
    ∃ (idx : Nat) (t : TypeId), slots[idx]? = some (i, t) ∧ (i < fr.length → (unS P slots ds k fr).getD i .undef = slotAV P t (ds.getD (k + idx) (.int 0)))
  | [], ds, k, fr, h => .inl ⟨by simp, rfl⟩
  | (i', t) :: r, ds, k, fr, h => by
    obtain ⟨h1, h2⟩ := nodup_cons (show nodup (i' :: r.map (·.1)) = true from h)
    unfold unS
    rcases unS_getD i r ds (k + 1) (fr.set i' (slotAV P t (ds.getD k (.int 0)))) h2 with ⟨h3, h4⟩ | ⟨idx, t', h3, h4⟩
    · by_cases hi : i' = i
      · subst hi
        refine .inr ⟨0, t, rfl, fun hl => ?_⟩
        refine h4.trans ?_
        rw [getD_set, if_pos ⟨rfl, hl⟩]
        rfl
      · refine .inl ⟨fun h => ?_, h4.trans ?_⟩
        · rcases List.mem_cons.1 h with h | h
          · exact hi h.symm
          · exact h3 h
        · rw [getD_set, if_neg (fun h => hi h.1)]
    · refine .inr ⟨idx + 1, t', by simpa using h3, fun hl => ?_⟩
      rw [show k + (idx + 1) = k + 1 + idx by omega]
      exact h4 (by simpa using hl)
def objAV (o : Option Ob) (d : D) : Option Ob := match o with
  | some (.cells s _ aps) => some (.cells s d aps)
  | some (.map kt v _) => some (.map kt v d)
  | none => none
theorem unO_length : ∀ (objs : List Nat) (ds : List D) (k : Nat) (hp : List (Option Ob)), (unO objs ds k hp).length = hp.length
  | [], ds, k, hp => rfl
  | i :: r, ds, k, hp => by unfold unO; rw [unO_length r]; simp
theorem unO_getD (n : Nat) : ∀ (objs : List Nat) (ds : List D) (k : Nat) (hp : List (Option Ob)), nodup objs = true →
    (n ∉ objs ∧ (unO objs ds k hp).getD n none = hp.getD n none) ∨
    ∃ idx : Nat, objs[idx]? = some n ∧ (unO objs ds k hp).getD n none = objAV (hp.getD n none) (ds.getD (k + idx) (.int 0))
  | [], ds, k, hp, h => .inl ⟨by simp, rfl⟩
  | i :: r, ds, k, hp, h => by
    obtain ⟨h1, h2⟩ := nodup_cons h
    unfold unO
    rcases unO_getD n r ds (k + 1) (hp.set i (objAV (hp.getD i none) (ds.getD k (.int 0)))) h2 with ⟨h3, h4⟩ | ⟨idx, h3, h4⟩
    · by_cases hi : i = n
      · subst hi
        refine .inr ⟨0, rfl, h4.trans ?_⟩
        rw [Nat.add_zero]
        rcases Nat.lt_or_ge i hp.length with hl | hl
        · rw [getD_set, if_pos ⟨rfl, hl⟩]
        · rw [List.getD_eq_getElem?_getD, List.getD_eq_getElem?_getD, List.getElem?_eq_none (by simpa using hl), List.getElem?_eq_none hl]
          rfl
      · refine .inl ⟨fun h => ?_, h4.trans ?_⟩
        · rcases List.mem_cons.1 h with h | h
          · exact hi h.symm
          · exact h3 h
        · rw [getD_set, if_neg (fun h => hi h.1)]
    · have hne : i ≠ n := fun e => h1 (e ▸ List.mem_of_getElem? h3)
      refine .inr ⟨idx + 1, by simpa using h3, ?_⟩
      rw [show k + (idx + 1) = k + 1 + idx by omega]
      refine h4.trans ?_
      rw [getD_set, if_neg (fun h => hne h.1)]
abbrev Tok := Nat × Option Nat × Bool × Nat
def mkAp (b : Bool) (m : Nat) : Ap := if b then .arr m else .own m
def tokAV (b : Bool) (m : Nat) (a : AV) : AV := match a with | .dt s d [_] => .dt s d [mkAp b m] | a => a
def tokOb (j m : Nat) (b : Bool) (o : Option Ob) : Option Ob := match o with | some (.cells s d aps) => some (.cells s d (aps.set j (mkAp b m))) | o => o
theorem unT_same : ∀ (toks : List Tok) (st : St), Same st (unT toks st)
  | [], st => .refl _
  | (i, none, b, m) :: r, st => by
    unfold unT
    refine Same.trans (b := { st with fr := st.fr.set i (tokAV b m (st.fr.getD i .undef)), tk := st.tk.set m (some true) }) ⟨rfl, rfl, by simp, rfl, by simp, rfl, rfl, rfl, rfl⟩ (unT_same r _)
  | (i, some j, b, m) :: r, st => by
    unfold unT
    exact (Same.setMark st i j m b).trans (unT_same r _)
theorem unT_tk (m : Nat) : ∀ (toks : List Tok) (st : St), (unT toks st).tk.getD m none = if m ∈ toks.map (·.2.2.2) ∧ m < st.tk.length then some true else st.tk.getD m none
  | [], st => by simp [unT]
  | (i, none, b, m') :: r, st => by
    unfold unT
    rw [unT_tk m r]
    simp only [List.length_set, getD_tk, List.map_cons, List.mem_cons]
    by_cases h1 : m ∈ r.map (·.2.2.2) ∧ m < st.tk.length
    · rw [if_pos h1, if_pos ⟨.inr h1.1, h1.2⟩]
    · rw [if_neg h1]
      by_cases h2 : m' = m ∧ m < st.tk.length
      · rw [if_pos h2, if_pos ⟨.inl h2.1.symm, h2.2⟩]
      · rw [if_neg h2, if_neg]
        rintro ⟨h3 | h3, h4⟩
        · exact h2 ⟨h3.symm, h4⟩
        · exact h1 ⟨h3, h4⟩
  | (i, some j, b, m') :: r, st => by
    unfold unT
    rw [unT_tk m r]
    simp only [setMark, List.length_set, getD_tk, List.map_cons, List.mem_cons]
    by_cases h1 : m ∈ r.map (·.2.2.2) ∧ m < st.tk.length
    · rw [if_pos h1, if_pos ⟨.inr h1.1, h1.2⟩]
    · rw [if_neg h1]
      by_cases h2 : m' = m ∧ m < st.tk.length
      · rw [if_pos h2, if_pos ⟨.inl h2.1.symm, h2.2⟩]
      · rw [if_neg h2, if_neg]
        rintro ⟨h3 | h3, h4⟩
        · exact h2 ⟨h3.symm, h4⟩
        · exact h1 ⟨h3, h4⟩
theorem tokAV_tokAV (b b' : Bool) (m m' : Nat) (a : AV) : tokAV b m (tokAV b' m' a) = tokAV b m a := by
  unfold tokAV
  split
  · rename_i s d x h
    split at h
    · rename_i s' d' x'
      cases h
      rfl
    · rename_i hne
      exact absurd h (fun h => hne s d x h)
  · rename_i hne
    split
    · rename_i s d x
      exact absurd rfl (hne s d (mkAp b' m'))
    · rfl
/-- What a slot's marks become. -/
theorem unT_fr (i : Nat) : ∀ (toks : List Tok) (st : St), ((∀ b m, (i, none, b, m) ∉ toks) ∧ (unT toks st).fr.getD i .undef = st.fr.getD i .undef) ∨
    ∃ b m, (i, none, b, m) ∈ toks ∧ (unT toks st).fr.getD i .undef = (if i < st.fr.length then tokAV b m (st.fr.getD i .undef) else st.fr.getD i .undef)
  | [], st => .inl ⟨by simp, rfl⟩
  | (i', none, b, m) :: r, st => by
    unfold unT
    have hset : ∀ (x : AV), ((st.fr.set i' x).getD i .undef) = if i' = i ∧ i < st.fr.length then x else st.fr.getD i .undef := fun x => getD_set _ _ _ _ _
    rcases unT_fr i r { st with fr := st.fr.set i' (tokAV b m (st.fr.getD i' .undef)), tk := st.tk.set m (some true) } with ⟨h1, h2⟩ | ⟨b', m', h1, h2⟩
    · by_cases hi : i' = i
      · subst hi
        refine .inr ⟨b, m, List.mem_cons_self, h2.trans ?_⟩
        rw [hset]
        by_cases hl : i' < st.fr.length
        · rw [if_pos ⟨rfl, hl⟩, if_pos hl]
        · rw [if_neg (fun h => hl h.2), if_neg hl]
      · refine .inl ⟨fun b' m' h => ?_, h2.trans ?_⟩
        · rcases List.mem_cons.1 h with h | h
          · injection h with h3 h4; exact hi h3.symm
          · exact h1 b' m' h
        · rw [hset, if_neg (fun h => hi h.1)]
    · refine .inr ⟨b', m', List.mem_cons_of_mem _ h1, h2.trans ?_⟩
      simp only [List.length_set, hset]
      by_cases hl : i < st.fr.length
      · rw [if_pos hl, if_pos hl]
        by_cases hi : i' = i
        · rw [if_pos ⟨hi, hl⟩, tokAV_tokAV, hi]
        · rw [if_neg (fun h => hi h.1)]
      · rw [if_neg hl, if_neg hl, if_neg (fun h => hl h.2)]
  | (i', some j, b, m) :: r, st => by
    unfold unT
    rcases unT_fr i r (setMark st i' j m b) with ⟨h1, h2⟩ | ⟨b', m', h1, h2⟩
    · refine .inl ⟨fun b' m' h => ?_, h2⟩
      rcases List.mem_cons.1 h with h | h
      · injection h with h3 h4; injection h4 with h4 h5; cases h4
      · exact h1 b' m' h
    · exact .inr ⟨b', m', List.mem_cons_of_mem _ h1, h2⟩
/-- What a variable's marks become. -/
theorem unT_hp (n : Nat) : ∀ (toks : List Tok) (st : St),
    (match st.hp.getD n none with
    | some (.cells s d aps) => ∃ aps', (unT toks st).hp.getD n none = some (.cells s d aps') ∧ aps'.length = aps.length ∧
        ∀ j, ((∀ b m, (n, some j, b, m) ∉ toks) ∧ aps'.getD j .dead = aps.getD j .dead) ∨ ∃ b m, (n, some j, b, m) ∈ toks ∧ (j < aps.length → aps'.getD j .dead = mkAp b m)
    | o => (unT toks st).hp.getD n none = o)
  | [], st => by
    cases h : st.hp.getD n none with
    | none => exact h
    | some o =>
      cases o with
      | map kt v d => exact h
      | cells s d aps => exact ⟨aps, h, rfl, fun j => .inl ⟨by simp, rfl⟩⟩
  | (i, none, b, m) :: r, st => by
    have ih := unT_hp n r { st with fr := st.fr.set i (tokAV b m (st.fr.getD i .undef)), tk := st.tk.set m (some true) }
    simp only at ih
    unfold unT
    cases h : st.hp.getD n none with
    | none => rw [h] at ih; exact ih
    | some o =>
      rw [h] at ih
      cases o with
      | map kt v d => exact ih
      | cells s d aps =>
        obtain ⟨aps', h1, h2, h3⟩ := ih
        refine ⟨aps', h1, h2, fun j => ?_⟩
        rcases h3 j with ⟨h4, h5⟩ | ⟨b', m', h4, h5⟩
        · refine .inl ⟨fun b' m' h => ?_, h5⟩
          rcases List.mem_cons.1 h with h | h
          · injection h with h6 h7; injection h7 with h7 h8; cases h7
          · exact h4 b' m' h
        · exact .inr ⟨b', m', List.mem_cons_of_mem _ h4, h5⟩
  | (i, some j0, b, m) :: r, st => by
    have ih := unT_hp n r (setMark st i j0 m b)
    have hset : (setMark st i j0 m b).hp.getD n none = if i = n ∧ n < st.hp.length then tokOb j0 m b (st.hp.getD n none) else st.hp.getD n none := by
      show (st.hp.set i (tokOb j0 m b (st.hp.getD i none))).getD n none = _
      rw [getD_set]
      by_cases hi : i = n
      · subst hi; rfl
      · rw [if_neg (fun h => hi h.1), if_neg (fun h => hi h.1)]
    unfold unT
    cases h : st.hp.getD n none with
    | none =>
      rw [hset, h] at ih
      have : (if i = n ∧ n < st.hp.length then tokOb j0 m b none else none) = none := by split <;> rfl
      rw [this] at ih
      exact ih
    | some o =>
      have hl : n < st.hp.length := getD_lt (z := none) (by rw [h]; simp)
      rw [hset, h] at ih
      cases o with
      | map kt v d =>
        have : (if i = n ∧ n < st.hp.length then tokOb j0 m b (some (.map kt v d)) else some (.map kt v d)) = some (.map kt v d) := by split <;> rfl
        rw [this] at ih
        exact ih
      | cells s d aps =>
        by_cases hi : i = n
        · rw [if_pos ⟨hi, hl⟩] at ih
          obtain ⟨aps', h1, h2, h3⟩ := ih
          refine ⟨aps', h1, by simpa using h2, fun j => ?_⟩
          rcases h3 j with ⟨h4, h5⟩ | ⟨b', m', h4, h5⟩
          · by_cases hj : j0 = j
            · subst hj
              subst hi
              refine .inr ⟨b, m, List.mem_cons_self, fun hl => ?_⟩
              rw [h5, getD_set, if_pos ⟨rfl, hl⟩]
            · refine .inl ⟨fun b' m' h => ?_, ?_⟩
              · rcases List.mem_cons.1 h with h | h
                · injection h with h6 h7; injection h7 with h7 h8; injection h7 with h7; exact hj h7.symm
                · exact h4 b' m' h
              · rw [h5, getD_set, if_neg (fun h => hj h.1)]
          · exact .inr ⟨b', m', List.mem_cons_of_mem _ h4, fun hl => h5 (by simpa using hl)⟩
        · rw [if_neg (fun h => hi h.1)] at ih
          obtain ⟨aps', h1, h2, h3⟩ := ih
          refine ⟨aps', h1, h2, fun j => ?_⟩
          rcases h3 j with ⟨h4, h5⟩ | ⟨b', m', h4, h5⟩
          · refine .inl ⟨fun b' m' h => ?_, h5⟩
            rcases List.mem_cons.1 h with h | h
            · injection h with h6 h7; exact hi h6.symm
            · exact h4 b' m' h
          · exact .inr ⟨b', m', List.mem_cons_of_mem _ h4, h5⟩
end
end Go.Proofs.Ytkimdfpmblhapaa.Va

/- What goes into a loop and out of it: what it says. -/
set_option linter.unusedVariables false
set_option linter.unusedSimpArgs false
namespace Go.Proofs.Ytkimdfpmblhapaa.Va
open Go.RowKit

section
variable {P : Program} {X : Nat → Nat → Prop} {w0 : World} {g0 g g' : Gho} {st st' b : St} {a a' : Act} {w w' : World}
theorem stay_fr {nb : Nat} {pr prM prT : List Nat} (hf : Fr w g nb pr prM prT g' w') (hx : ∀ b o, X b o → g'.own b = .dat) : Stay w (Wr X g) w' (Wr X g') := fun b o v hc hw => by
  have hlt := World.block_lt_of_cell? w ⟨b, o, none⟩ hc
  have hX : ¬ X b o := fun h => hw (.inl h)
  cases ho : g.own b with
  | dat =>
    obtain ⟨h1, h2⟩ := hf.old b hlt (by rw [ho]; trivial)
    refine ⟨(cell_block h1).trans hc, fun h => ?_⟩
    rcases h with h | h
    · exact hX h
    · rw [h2, ho] at h; exact h
  | ob n => exact absurd (.inr (by rw [ho]; trivial)) hw
  | rw m => exact absurd (.inr (by rw [ho]; trivial)) hw
  | tl m s =>
    obtain ⟨h1, h2⟩ := hf.tl b m s hlt ho
    have hs : o < s := by
      rcases Nat.lt_or_ge o s with h | h
      · exact h
      · exact absurd (.inr (by rw [ho]; exact h)) hw
    refine ⟨h1 o v hs hc, fun h => ?_⟩
    rcases h with h | h
    · exact hX h
    · rcases h2 with h2 | ⟨m', s', h2, h3⟩
      · rw [h2] at h; exact h
      · rw [h2] at h; have : s' ≤ o := h; omega
theorem mem_nm {v : XV} {n : Nat} (hn : n ∈ v.names) : ∀ {l : List XV}, v ∈ l → n ∈ XV.names.nm l
  | x :: r, h => by
    unfold XV.names.nm
    rcases List.mem_cons.1 h with h | h
    · subst h; exact List.mem_append_left _ hn
    · exact List.mem_append_right _ (mem_nm hn h)
theorem rx_has {ok ok' : Nat → Bool} {x : XV} {v : Value} (h : RX g ok x v) : (∀ n ∈ x.names, ok' n = true) → RX g ok' x v := by
  induction h with
  | nilp => exact fun _ => .nilp
  | nilm => exact fun _ => .nilm
  | nilf => exact fun _ => .nilf
  | ptr n off hn => exact fun h => .ptr n off (h n (by simp [XV.names]))
  | mp n hn => exact fun h => .mp n (h n (by simp [XV.names]))
  | fn f a b va vb ha hb _ _ i1 i2 =>
    intro h
    exact .fn f a b va vb ha hb (fun i x v h1 h2 => i1 i x v h1 h2 fun n hn => h n (by unfold XV.names; exact List.mem_append_left _ (mem_nm hn (List.mem_of_getElem? h1))))
      (fun i x v h1 h2 => i2 i x v h1 h2 fun n hn => h n (by unfold XV.names; exact List.mem_append_right _ (mem_nm hn (List.mem_of_getElem? h1))))
/-- Names are there, whatever is so. -/
theorem rx_names {ok : Nat → Bool} {x : XV} {v : Value} (h : RX g ok x v) : ∀ n ∈ x.names, ok n = true := by
  induction h with
  | nilp => intro n hn; simp [XV.names] at hn
  | nilm => intro n hn; simp [XV.names] at hn
  | nilf => intro n hn; simp [XV.names] at hn
  | ptr n off hn => intro n' h; simp [XV.names] at h; subst h; exact hn
  | mp n hn => intro n' h; simp [XV.names] at h; subst h; exact hn
  | fn f a b va vb ha hb _ _ i1 i2 =>
    intro n hn
    unfold XV.names at hn
    have key : ∀ (l : List XV) (vs : Array Value), l.length = vs.size → (∀ (i : Nat) (x : XV) (v : Value), l[i]? = some x → vs[i]? = some v → ∀ n ∈ x.names, ok n = true) → n ∈ XV.names.nm l → ok n = true := by
      intro l vs hl hi hn
      have : ∃ x ∈ l, n ∈ x.names := by
        clear hl hi
        induction l with
        | nil => unfold XV.names.nm at hn; cases hn
        | cons x r ih =>
          unfold XV.names.nm at hn
          rcases List.mem_append.1 hn with hn | hn
          · exact ⟨x, List.mem_cons_self, hn⟩
          · obtain ⟨y, hy, h⟩ := ih hn
            exact ⟨y, List.mem_cons_of_mem _ hy, h⟩
      obtain ⟨x, hx, hxn⟩ := this
      obtain ⟨i, hi1, hi2⟩ := List.mem_iff_getElem.1 hx
      exact hi i x (vs[i]'(by omega)) (by rw [List.getElem?_eq_getElem hi1, hi2]) (by rw [Array.getElem?_eq_getElem (by omega)]) n hxn
    rcases List.mem_append.1 hn with hn | hn
    · exact key a va ha (fun i x v h1 h2 => i1 i x v h1 h2) hn
    · exact key b vb hb (fun i x v h1 h2 => i2 i x v h1 h2) hn
theorem apNames_at {n : Nat} : ∀ {aps : List Ap} {j : Nat} {x : XV}, aps.getD j .dead = .x x → n ∈ x.names → n ∈ apNames aps
  | [], j, x, h, hn => by rw [getD_nil] at h; cases h
  | a :: r, 0, x, h, hn => by
    rw [getD_cons_zero] at h
    subst h
    unfold apNames
    exact List.mem_append_left _ hn
  | a :: r, j + 1, x, h, hn => by
    rw [getD_cons_succ] at h
    have := apNames_at h hn
    cases a with
    | x v => unfold apNames; exact List.mem_append_right _ this
    | _ => unfold apNames; exact this
theorem ra_drop {ms : List Nat} {k : LK} {d : D} {ap : Ap} {v : Value} (h : RA P X g st w k d ap v) (hn : ∀ x, ap = .x x → ∀ n ∈ x.names, b.has n = true) (hk : ∀ m, m ∉ ms → knownTk st m → knownTk b m)
    (hl : ∀ m, liveTk b m = true → liveTk st m = true) : RA P X g b w k d (dropAp ms ap) v := by
  obtain ⟨h1, h2⟩ := h
  cases ap with
  | ro => exact ⟨h1, h2⟩
  | nl => exact ⟨h1, h2⟩
  | full => exact ⟨h1, h2⟩
  | dead => exact ⟨h1, trivial⟩
  | x x => exact ⟨h1, rx_has h2 (hn x rfl)⟩
  | own m =>
    by_cases hm : ms.contains m = true
    · rw [show dropAp ms (.own m) = .ro from if_pos hm]; exact ⟨h1, h2.1⟩
    · rw [show dropAp ms (.own m) = .own m from if_neg hm]
      exact ⟨h1, h2.1, hk m (by simpa using hm) h2.2.1, fun hlv => h2.2.2 (hl m hlv)⟩
  | arr m =>
    by_cases hm : ms.contains m = true
    · rw [show dropAp ms (.arr m) = .dead from if_pos hm]; exact ⟨h1, trivial⟩
    · rw [show dropAp ms (.arr m) = .arr m from if_neg hm]
      exact ⟨h1, hk m (by simpa using hm) h2.1, fun hlv => h2.2 (hl m hlv)⟩
theorem rc_drop {ms : List Nat} {s : Sh} {d : D} {aps : List Ap} {cs : List Value} (h : RC P X g st w s d aps cs) (hn : ∀ n ∈ apNames aps, b.has n = true) (hk : ∀ m, m ∉ ms → knownTk st m → knownTk b m)
    (hl : ∀ m, liveTk b m = true → liveTk st m = true) : RC P X g b w s d (aps.map (dropAp ms)) cs :=
  ⟨h.len, by simpa using h.lap, fun j k hj => by
    rw [getD_map _ _ _ _ rfl]
    exact ra_drop (h.at_ j k hj) (fun x hx n hxn => hn n (apNames_at hx hxn)) hk hl⟩
theorem rv_drop {ms : List Nat} {x : AV} {v : Value} (h : RV P X g st w x v) (hnt : ∀ l, x ≠ .tup l) (hn : ∀ n ∈ avNames x, b.has n = true) (hk : ∀ m, m ∉ ms → knownTk st m → knownTk b m)
    (hl : ∀ m, liveTk b m = true → liveTk st m = true) : RV P X g b w (dropAV ms x) v := by
  cases x with
  | undef => trivial
  | no => exact h
  | nilsl => exact h
  | dt s d aps => exact ⟨h.1, rc_drop h.2 hn hk hl⟩
  | ip s d off => exact h
  | ep m s d off =>
    show RV P X g b w (if ms.contains m = true then AV.undef else AV.ep m s d off) v
    by_cases hm : ms.contains m = true
    · rw [if_pos hm]; trivial
    · rw [if_neg hm]
      exact ⟨hk m (by simpa using hm) h.1, fun hlv => h.2 (hl m hlv)⟩
  | tup l => exact absurd rfl (hnt l)
theorem ro_drop {ms : List Nat} {n : Nat} {o o1 : Ob} (h : RO P X g st w n o) (ho : dropOb ms (some o) = some o1) (hn : ∀ k ∈ obNames (some o1), b.has k = true) (hk : ∀ m, m ∉ ms → knownTk st m → knownTk b m)
    (hl : ∀ m, liveTk b m = true → liveTk st m = true) : RO P X g b w n o1 := by
  have hap : ∀ aps : List Ap, apNames (aps.map (dropAp ms)) = apNames aps := fun aps => by
    induction aps with
    | nil => rfl
    | cons x r ih =>
      cases x with
      | own m =>
        simp only [List.map_cons, dropAp]
        split <;> simpa [apNames] using ih
      | arr m =>
        simp only [List.map_cons, dropAp]
        split <;> simpa [apNames] using ih
      | _ => simp [apNames, dropAp, ih]
  cases o with
  | cells s d aps =>
    cases ho
    obtain ⟨cs, e, h1, h2, h3, h4⟩ := h
    exact ⟨cs, e, h1, h2, h3, rc_drop h4 (fun n hx => hn n (by show n ∈ apNames _; rw [hap]; exact hx)) hk hl⟩
  | map kt vt d =>
    cases ho
    obtain ⟨es, c, k, sv, h1, h2, h3, h4, h5, h6⟩ := h
    refine ⟨es, c, k, sv, h1, h2, h3, h4, h5, fun i p hp => ?_⟩
    obtain ⟨q, h7, h8, h9, h10⟩ := h6 i p hp
    refine ⟨q, h7, h8, h9, ?_⟩
    have := rc_drop (b := b) (ms := ms) h10 (fun n hx => ?_) hk hl
    · have he : (roAps sv.ks).map (dropAp ms) = roAps sv.ks := by
        generalize sv.ks = ks
        induction ks with
        | nil => rfl
        | cons x r ih => simp [roAps, dropAp, ih]
      rwa [he] at this
    · exfalso
      revert hx
      generalize sv.ks = ks
      induction ks with
      | nil => simp [roAps, apNames]
      | cons x r ih => simpa [roAps, apNames] using ih
/-- Where something is told of a whole call, and what a snapshot in its midst says. -/
theorem Fr.refl (hlt : ∀ b, g.own b ≠ .dat → b < w.heap.size) (nb : Nat) (pr prM prT : List Nat) : Fr w g nb pr prM prT g w :=
  ⟨rfl, rfl, rfl, Nat.le_refl _, fun b _ _ => ⟨rfl, rfl⟩, hlt, fun _ _ => rfl, fun b m s _ h => ⟨fun _ _ _ h => h, .inr ⟨m, s, h, Nat.le_refl _⟩⟩, fun _ _ => rfl, fun _ _ _ _ => rfl⟩
theorem Gh.fx_mono {pr pr' prT prT' : List Nat} (h1 : ∀ n, n ∈ pr → n ∈ pr') (h2 : ∀ n, n ∈ prT → n ∈ prT') {h : Gh} (hh : h.fx pr prT) : h.fx pr' prT' := by
  cases h with
  | dat => trivial
  | ob n => exact h1 n hh
  | tl m s => exact h2 m hh
  | rw m => exact h2 m hh
theorem Fr.trans {nb : Nat} {pr prM prT pr' prM' prT' : List Nat} {w1 : World} {g1 : Gho} (h : Fr w0 g0 nb pr prM prT g1 w1) (k : Fr w1 g1 nb pr' prM' prT' g w)
    (h1 : ∀ n, n ∈ pr → n ∈ pr') (h2 : ∀ n, n ∈ prM → n ∈ prM') (h3 : ∀ n, n ∈ prT → n ∈ prT') : Fr w0 g0 nb pr prM prT g w where
  os := k.os.trans h.os
  tape := k.tape.trans h.tape
  output := k.output.trans h.output
  size := Nat.le_trans h.size k.size
  old := fun b hb hf => by
    obtain ⟨h4, h5⟩ := h.old b hb hf
    obtain ⟨h6, h7⟩ := k.old b (Nat.lt_of_lt_of_le hb h.size) (by rw [h5]; exact Gh.fx_mono h1 h3 hf)
    exact ⟨h6.trans h4, h7.trans h5⟩
  lt := k.lt
  mu := fun n hn => (k.mu n (hn.imp id (h2 n))).trans (h.mu n hn)
  tl := fun b m s hb h0 => by
    obtain ⟨h4, h5⟩ := h.tl b m s hb h0
    have hlt := Nat.lt_of_lt_of_le hb h.size
    rcases h5 with h5 | ⟨m', s', h5, h6⟩
    · obtain ⟨h7, h8⟩ := k.old b hlt (by rw [h5]; trivial)
      exact ⟨fun o v ho hv => (cell_block h7).trans (h4 o v ho hv), .inl (h8.trans h5)⟩
    · obtain ⟨h7, h8⟩ := k.tl b m' s' hlt h5
      refine ⟨fun o v ho hv => h7 o v (by omega) (h4 o v ho hv), ?_⟩
      rcases h8 with h8 | ⟨m2, s2, h8, h9⟩
      · exact .inl h8
      · exact .inr ⟨m2, s2, h8, by omega⟩
  rho := fun m hm => (k.rho m (h3 m hm)).trans (h.rho m hm)
  back := fun b m hm ht => by
    have h4 := k.back b m (h3 m hm) ht
    exact h4.trans (h.back b m hm (by rw [← h4]; exact ht))
end
end Go.Proofs.Ytkimdfpmblhapaa.Va

/- What goes into a loop and out of it: the pack's own facts. -/
set_option linter.unusedVariables false
set_option linter.unusedSimpArgs false
namespace Go.Proofs.Ytkimdfpmblhapaa.Va
open Go.RowKit

theorem inToks_iff {i : Nat} {j : Option Nat} : ∀ {toks : List Tok}, inToks i j toks = true ↔ ∃ b m, (i, j, b, m) ∈ toks
  | [] => by simp [inToks]
  | (i', j', b, m) :: r => by
    unfold inToks
    simp only [Bool.or_eq_true, Bool.and_eq_true, beq_iff_eq]
    rw [inToks_iff (toks := r)]
    constructor
    · rintro (⟨rfl, rfl⟩ | ⟨b', m', h⟩)
      · exact ⟨b, m, List.mem_cons_self⟩
      · exact ⟨b', m', List.mem_cons_of_mem _ h⟩
    · rintro ⟨b', m', h⟩
      rcases List.mem_cons.1 h with h | h
      · injection h with h1 h2
        injection h2 with h2 h3
        exact .inl ⟨h1.symm, h2.symm⟩
      · exact .inr ⟨b', m', h⟩
mutual
theorem eqX_eq : ∀ (v v' : XV), packO.eqX v v' = true → v = v'
  | .nil, v', h => by cases v' <;> first | rfl | (unfold packO.eqX at h; cases h)
  | .ptr n o, v', h => by
    cases v' with
    | ptr n' o' => unfold packO.eqX at h; simp at h; rw [h.1, h.2]
    | _ => unfold packO.eqX at h; cases h
  | .mp n, v', h => by
    cases v' with
    | mp n' => unfold packO.eqX at h; simp at h; rw [h]
    | _ => unfold packO.eqX at h; cases h
  | .fn f a b, v', h => by
    cases v' with
    | fn f' a' b' =>
      unfold packO.eqX at h
      simp only [Bool.and_eq_true, beq_iff_eq] at h
      rw [h.1.1, eqXs_eq a a' h.1.2, eqXs_eq b b' h.2]
    | _ => unfold packO.eqX at h; cases h
theorem eqXs_eq : ∀ (a b : List XV), packO.eqXs a b = true → a = b
  | [], b, h => by
    cases b with
    | nil => rfl
    | cons y s => unfold packO.eqXs at h; cases h
  | x :: r, b, h => by
    cases b with
    | nil => unfold packO.eqXs at h; cases h
    | cons y s =>
      unfold packO.eqXs at h
      simp only [Bool.and_eq_true] at h
      rw [eqX_eq x y h.1, eqXs_eq r s h.2]
end
/-- One cell of a variable that is handed on. -/
def SX (toks : List Tok) (i j : Nat) (a a0 : Ap) : Prop := match a0 with
  | .x v0 => a = .x v0
  | .ro => dataAp a = true ∨ ∃ b m, (i, some j, b, m) ∈ toks
  | .dead => True
  | _ => False
theorem sameX_spec (toks : List Tok) (i : Nat) : ∀ (aps aps0 : List Ap) (k : Nat), packO.sameX toks i k aps aps0 = true → aps.length = aps0.length ∧ ∀ j, j < aps0.length → SX toks i (k + j) (aps.getD j .dead) (aps0.getD j .dead)
  | aps, [], k, h => by
    cases aps with
    | nil => exact ⟨rfl, fun j hj => by cases hj⟩
    | cons a r => cases a <;> · unfold packO.sameX at h; cases h
  | [], a0 :: r0, k, h => by unfold packO.sameX at h; cases h
  | a :: r, a0 :: r0, k, h => by
    have key : SX toks i k a a0 ∧ packO.sameX toks i (k + 1) r r0 = true := by
      unfold packO.sameX at h
      split at h
      · rename_i h1 h2; cases h1
      · rename_i v r' v0 r0' h1 h2
        cases h1; cases h2
        simp only [Bool.and_eq_true] at h
        exact ⟨by show Ap.x v = .x v0; rw [eqX_eq v v0 h.1], h.2⟩
      · rename_i h1 h2
        cases h1; cases h2
        simp only [Bool.and_eq_true, Bool.or_eq_true] at h
        exact ⟨h.1.imp id inToks_iff.1, h.2⟩
      · rename_i h1 h2
        cases h1; cases h2
        exact ⟨trivial, h⟩
      · cases h
    obtain ⟨h1, h2⟩ := sameX_spec toks i r r0 (k + 1) key.2
    refine ⟨by simp [h1], fun j hj => ?_⟩
    cases j with
    | zero => exact key.1
    | succ j =>
      have := h2 j (by simpa using hj)
      rw [show k + 1 + j = k + (j + 1) by omega] at this
      exact this
def apMark : Ap → Option Nat
  | .own m | .arr m => some m
  | _ => none
theorem mem_tokMarks (st : St) {m : Nat} : ∀ {toks : List Tok}, m ∈ tokMarks st toks ↔ ∃ x ∈ toks, apMark (apAt st x.1 x.2.1) = some m
  | [] => by simp [tokMarks]
  | (i, j, b, q) :: r => by
    unfold tokMarks
    rw [List.mem_append, mem_tokMarks st (toks := r)]
    constructor
    · rintro (h | ⟨x, hx, h⟩)
      · refine ⟨_, List.mem_cons_self, ?_⟩
        revert h
        simp only
        cases apAt st i j <;> simp [apMark]
        · exact fun h => h.symm
        · exact fun h => h.symm
      · exact ⟨x, List.mem_cons_of_mem _ hx, h⟩
    · rintro ⟨x, hx, h⟩
      rcases List.mem_cons.1 hx with hx | hx
      · subst hx
        refine .inl ?_
        revert h
        simp only
        cases apAt st i j <;> simp [apMark]
        · exact fun h => h.symm
        · exact fun h => h.symm
      · exact .inr ⟨x, hx, h⟩
theorem tokMarks_uniq (st : St) {m : Nat} : ∀ {toks : List Tok}, nodup (tokMarks st toks) = true → ∀ x ∈ toks, ∀ y ∈ toks, apMark (apAt st x.1 x.2.1) = some m → apMark (apAt st y.1 y.2.1) = some m → x = y
  | [], h, x, hx, y, hy, _, _ => by cases hx
  | (i, j, b, q) :: r, h, x, hx, y, hy, h1, h2 => by
    unfold tokMarks at h
    obtain ⟨_, h4, h5⟩ := nodup_app h
    have hd : apMark (apAt st i j) = some m → m ∈ (match apAt st i j with | .own m | .arr m => [m] | _ => ([] : List Nat)) := by
      cases apAt st i j <;> simp [apMark]
      · exact fun h => h.symm
      · exact fun h => h.symm
    rcases List.mem_cons.1 hx with hx | hx <;> rcases List.mem_cons.1 hy with hy | hy
    · rw [hx, hy]
    · subst hx
      exact absurd ((mem_tokMarks st).2 ⟨y, hy, h2⟩) (h5 m (hd h1))
    · subst hy
      exact absurd ((mem_tokMarks st).2 ⟨x, hx, h1⟩) (h5 m (hd h2))
    · exact tokMarks_uniq st h4 x hx y hy h1 h2
theorem names_uniq {m : Nat} : ∀ {toks : List Tok}, nodup (toks.map (·.2.2.2)) = true → ∀ x ∈ toks, ∀ y ∈ toks, x.2.2.2 = m → y.2.2.2 = m → x = y
  | [], h, x, hx, y, hy, _, _ => by cases hx
  | z :: r, h, x, hx, y, hy, h1, h2 => by
    obtain ⟨h3, h4⟩ := nodup_cons (show nodup (z.2.2.2 :: r.map (·.2.2.2)) = true from h)
    rcases List.mem_cons.1 hx with hx' | hx' <;> rcases List.mem_cons.1 hy with hy' | hy'
    · rw [hx', hy']
    · exact (h3 (List.mem_map.2 ⟨y, hy', by rw [h2, ← h1, hx']⟩)).elim
    · exact (h3 (List.mem_map.2 ⟨x, hx', by rw [h1, ← h2, hy']⟩)).elim
    · exact names_uniq h4 x hx' y hy' h1 h2
/-- What is known of an owned cell that is handed on. -/
def TokOk (P : Program) (st b : St) (x : Tok) : Prop :=
  (∃ e s, kAt st x.1 x.2.1 = some e ∧ shp P e = some s) ∧
  (apAt st x.1 x.2.1 = .nl ∨ (apAt st x.1 x.2.1 = .full ∧ x.2.2.1 = false) ∨ (∃ m, apAt st x.1 x.2.1 = .own m ∧ x.2.2.1 = false ∧ liveTk st m = true ∧ m ∉ b.protT) ∨
    (∃ m, apAt st x.1 x.2.1 = .arr m ∧ x.2.2.1 = true ∧ liveTk st m = true ∧ m ∉ b.protT))
structure PackOk (P : Program) (f : Ifc) (b st : St) (ds : List D) : Prop where
  slot : ∀ (idx i : Nat) (t : TypeId), f.slots[idx]? = some (i, t) → ∃ s d aps, st.fr.getD i .undef = .dt s d aps ∧ shp P t = some s ∧ ds.getD (0 + idx) (.int 0) = d ∧ (aps.all dataAp = true ∨ ∃ b m, (i, none, b, m) ∈ f.toks)
  obj : ∀ (idx n : Nat), f.objs[idx]? = some n →
    (∃ s d aps d0 aps0, st.hp.getD n none = some (.cells s d aps) ∧ b.hp.getD n none = some (.cells s d0 aps0) ∧ ds.getD (f.slots.length + idx) (.int 0) = d ∧ aps.length = aps0.length ∧ ∀ j, j < aps0.length → SX f.toks n j (aps.getD j .dead) (aps0.getD j .dead)) ∨
    (∃ k v d d0, st.hp.getD n none = some (.map k v d) ∧ b.hp.getD n none = some (.map k v d0) ∧ ds.getD (f.slots.length + idx) (.int 0) = d)
  tok : ∀ x ∈ f.toks, TokOk P st b x
  src : nodup (tokMarks st f.toks) = true
  inS : ∀ x ∈ f.toks, x.2.1 = none → x.1 ∈ f.slots.map (·.1)
  inO : ∀ x ∈ f.toks, x.2.1 ≠ none → x.1 ∈ f.objs
  closed : ∀ n o, b.hp.getD n none = some o → ∀ k ∈ obNames (some o), b.has k = true
  cover : ∀ n o, b.hp.getD n none = some o → n ∈ b.prot ∨ n ∈ f.objs
  fresh : ∀ x ∈ f.toks, x.2.2.2 < b.tk.length ∧ b.tk.getD x.2.2.2 none = none
  names : nodup (f.toks.map (·.2.2.2)) = true
  slots : nodup (f.slots.map (·.1)) = true
  objs : nodup f.objs = true
theorem packS_spec {P : Program} {st : St} {toks : List Tok} : ∀ {slots : List (Nat × TypeId)} {l : List D}, packS P st toks slots = some l → l.length = slots.length ∧ ∀ (idx i : Nat) (t : TypeId), slots[idx]? = some (i, t) →
    ∃ s d aps, st.fr.getD i .undef = .dt s d aps ∧ shp P t = some s ∧ l[idx]? = some d ∧ (aps.all dataAp = true ∨ ∃ b m, (i, none, b, m) ∈ toks)
  | [], l, h => by cases h; exact ⟨rfl, fun idx i t h => by simp at h⟩
  | (i0, t0) :: r, l, h => by
    unfold packS at h
    split at h
    · rename_i s d aps s' l' h1 h2 h3
      split at h
      · rename_i hc
        simp only [Bool.and_eq_true, decide_eq_true_eq, Bool.or_eq_true] at hc
        cases h
        obtain ⟨h4, h5⟩ := packS_spec h3
        refine ⟨by simp [h4], fun idx i t hi => ?_⟩
        cases idx with
        | zero =>
          simp at hi
          obtain ⟨rfl, rfl⟩ := hi
          exact ⟨s, d, aps, h1, by rw [hc.1]; exact h2, rfl, hc.2.imp id inToks_iff.1⟩
        | succ idx => exact h5 idx i t (by simpa using hi)
      · cases h
    · cases h
theorem packO_spec {b st : St} {toks : List Tok} : ∀ {objs : List Nat} {l : List D}, packO b st toks objs = some l → l.length = objs.length ∧ ∀ (idx n : Nat), objs[idx]? = some n →
    (∃ s d aps d0 aps0, st.hp.getD n none = some (.cells s d aps) ∧ b.hp.getD n none = some (.cells s d0 aps0) ∧ l[idx]? = some d ∧ aps.length = aps0.length ∧ ∀ j, j < aps0.length → SX toks n j (aps.getD j .dead) (aps0.getD j .dead)) ∨
    (∃ k v d d0, st.hp.getD n none = some (.map k v d) ∧ b.hp.getD n none = some (.map k v d0) ∧ l[idx]? = some d)
  | [], l, h => by cases h; exact ⟨rfl, fun idx n h => by simp at h⟩
  | n0 :: r, l, h => by
    unfold packO at h
    split at h
    · rename_i s d aps s0 d0 aps0 l' h1 h2 h3
      split at h
      · rename_i hc
        simp only [Bool.and_eq_true, decide_eq_true_eq] at hc
        obtain ⟨rfl, hx⟩ := hc
        cases h
        obtain ⟨h4, h5⟩ := packO_spec h3
        refine ⟨by simp [h4], fun idx n hi => ?_⟩
        cases idx with
        | zero =>
          simp at hi
          subst hi
          obtain ⟨h6, h7⟩ := sameX_spec toks n0 aps aps0 0 hx
          exact .inl ⟨s, d, aps, d0, aps0, h1, h2, rfl, h6, fun j hj => by have := h7 j hj; rwa [Nat.zero_add] at this⟩
        | succ idx => exact h5 idx n (by simpa using hi)
      · cases h
    · rename_i k v d k0 v0 d0 l' h1 h2 h3
      split at h
      · rename_i hc
        obtain ⟨rfl, rfl⟩ := hc
        cases h
        obtain ⟨h4, h5⟩ := packO_spec h3
        refine ⟨by simp [h4], fun idx n hi => ?_⟩
        cases idx with
        | zero =>
          simp at hi
          subst hi
          exact .inr ⟨k, v, d, d0, h1, h2, rfl⟩
        | succ idx => exact h5 idx n (by simpa using hi)
      · cases h
    · cases h
theorem packT_spec {P : Program} {st : St} : ∀ {toks : List Tok}, packT P st toks = true → ∀ x ∈ toks, kOk P st x.1 x.2.1 = true ∧ (match apAt st x.1 x.2.1 with
    | .nl => True
    | .full => x.2.2.1 = false
    | .own m => x.2.2.1 = false ∧ useTk st m = true
    | .arr m => x.2.2.1 = true ∧ useTk st m = true
    | _ => False)
  | [], h, x, hx => by cases hx
  | (i, j, b, m) :: r, h, x, hx => by
    unfold packT at h
    simp only [Bool.and_eq_true] at h
    rcases List.mem_cons.1 hx with hx | hx
    · subst hx
      refine ⟨h.1.2, ?_⟩
      have h1 := h.1.1
      simp only
      revert h1
      cases apAt st i j <;> simp
    · exact packT_spec h.2 x hx
theorem closedO_spec {hp : List (Option Ob)} : ∀ {l : List (Option Ob)}, closedO hp l = true → ∀ n o, l.getD n none = some o → ∀ k ∈ obNames (some o), (hp.getD k none).isSome = true
  | [], h, n, o, ho, k, hk => by rw [getD_nil] at ho; cases ho
  | o' :: r, h, n, o, ho, k, hk => by
    unfold closedO at h
    simp only [Bool.and_eq_true] at h
    cases n with
    | zero => rw [getD_cons_zero] at ho; subst ho; exact List.all_eq_true.1 h.1 k hk
    | succ n => rw [getD_cons_succ] at ho; exact closedO_spec h.2 n o ho k hk
theorem getD_of {α : Type} {l : List α} {i : Nat} {x z : α} (h : l[i]? = some x) : l.getD i z = x := by simp [List.getD_eq_getElem?_getD, h]
theorem pack_ok {P : Program} {f : Ifc} {b st : St} {ds : List D} (h : f.pack P b st = some ds) (hT : ∀ x ∈ f.toks, ∀ m, apMark (apAt st x.1 x.2.1) = some m → m ∉ st.protT → m ∉ b.protT) : PackOk P f b st ds := by
  unfold Ifc.pack at h
  split at h
  · rename_i x y hx hy
    split at h
    · rename_i hc
      simp only [Bool.and_eq_true] at hc
      obtain ⟨⟨⟨⟨⟨⟨⟨⟨h1, h2⟩, h3⟩, h4⟩, h5⟩, h6⟩, h7⟩, h8⟩, h9⟩ := hc
      injection h with h
      subst h
      obtain ⟨hxl, hxs⟩ := packS_spec hx
      obtain ⟨hyl, hys⟩ := packO_spec hy
      refine ⟨fun idx i t hi => ?_, fun idx n hi => ?_, fun x hx => ?_, h3, fun x hx hn => ?_, fun x hx hn => ?_, fun n o ho => closedO_spec h4 n o ho, fun n o ho => ?_, fun x hx => ?_, h7, h8, h9⟩
      · obtain ⟨s, d, aps, e1, e2, e3, e4⟩ := hxs idx i t hi
        refine ⟨s, d, aps, e1, e2, ?_, e4⟩
        rw [Nat.zero_add]
        exact getD_of (by rw [List.getElem?_append_left (List.getElem?_eq_some_iff.1 e3).1]; exact e3)
      · have hk : ∀ d : D, y[idx]? = some d → (x ++ y).getD (f.slots.length + idx) (.int 0) = d := fun d hd => getD_of (by
          rw [List.getElem?_append_right (by omega), hxl, Nat.add_sub_cancel_left]; exact hd)
        rcases hys idx n hi with ⟨s, d, aps, d0, aps0, e1, e2, e3, e4⟩ | ⟨k, v, d, d0, e1, e2, e3⟩
        · exact .inl ⟨s, d, aps, d0, aps0, e1, e2, hk d e3, e4⟩
        · exact .inr ⟨k, v, d, d0, e1, e2, hk d e3⟩
      · obtain ⟨e1, e2⟩ := packT_spec h1 x hx
        have hu : ∀ m, useTk st m = true → liveTk st m = true ∧ m ∉ st.protT := fun m hm => ⟨useTk_live hm, useTk_prot hm⟩
        refine ⟨?_, ?_⟩
        · unfold kOk at e1
          split at e1
          · rename_i e he
            obtain ⟨s, hs⟩ := Option.isSome_iff_exists.1 e1
            exact ⟨e, s, he, hs⟩
          · cases e1
        · have hT' := hT x hx
          revert e2 hT'
          cases hap : apAt st x.1 x.2.1 with
          | nl => exact fun _ _ => .inl rfl
          | full => exact fun h _ => .inr (.inl ⟨rfl, h⟩)
          | own m => exact fun h hT => .inr (.inr (.inl ⟨m, rfl, h.1, (hu m h.2).1, hT m rfl (hu m h.2).2⟩))
          | arr m => exact fun h hT => .inr (.inr (.inr ⟨m, rfl, h.1, (hu m h.2).1, hT m rfl (hu m h.2).2⟩))
          | _ => exact fun h => h.elim
      · have := List.all_eq_true.1 h2 x hx
        rw [hn] at this
        simpa using this
      · have := List.all_eq_true.1 h2 x hx
        cases hj : x.2.1 with
        | none => exact absurd hj hn
        | some j => rw [hj] at this; simpa using this
      · have := List.all_eq_true.1 h5 n (by have := someO_mem _ 0 n o ho; rwa [Nat.zero_add] at this)
        simp only [Bool.or_eq_true] at this
        exact this.imp (fun h => by simpa using h) (fun h => by simpa using h)
      · have := List.all_eq_true.1 h6 x hx
        simp only [Bool.and_eq_true, decide_eq_true_eq, Option.isNone_iff_eq_none] at this
        refine ⟨this.1, ?_⟩
        rw [List.getD_eq_getElem?_getD, List.getElem?_eq_getElem this.1] at this ⊢
        exact this.2
    · cases h
  · cases h
end Go.Proofs.Ytkimdfpmblhapaa.Va

/- What goes into a loop and out of it. -/
set_option linter.unusedVariables false
set_option linter.unusedSimpArgs false
namespace Go.Proofs.Ytkimdfpmblhapaa.Va
open Go.RowKit

def valAt (a : Act) (g : Gho) (w : World) (i : Nat) : Option Nat → Value
  | none => (a.tmps.getD i undef).cells.toList.getD 0 undef
  | some j => match w.heap[g.mu i]? with
    | some (.cells cs _ _) => cs.toList.getD j undef
    | _ => undef
def sizeAt (P : Program) (st : St) (i : Nat) (j : Option Nat) : Nat := match (kAt st i j).bind (shp P) with
  | some s => s.ks.length
  | none => 0
def newName (st : St) (T : List Tok) (m0 : Nat) : Option Nat := (T.find? fun x => apMark (apAt st x.1 x.2.1) == some m0).map (·.2.2.2)
def ownU (b u : St) (nn : Nat → Option Nat) : Gh → Gh
  | .dat => .dat
  | .ob n => if u.has n = true ∨ n ∈ b.prot then .ob n else .dat
  | .tl m s => if m ∈ b.protT then .tl m s else match nn m with | some m' => .tl m' s | none => .dat
  | .rw m => if m ∈ b.protT then .rw m else match nn m with | some m' => .rw m' | none => .dat
def rhoU (P : Program) (b st : St) (T : List Tok) (a : Act) (g : Gho) (w : World) (m : Nat) : Value × Nat :=
  if m ∈ b.protT then g.rho m else match T.find? (fun x => x.2.2.2 == m) with
    | some x => (valAt a g w x.1 x.2.1, sizeAt P st x.1 x.2.1)
    | none => g.rho m
def ghoU (P : Program) (b u st : St) (T : List Tok) (a : Act) (g : Gho) (w : World) : Gho :=
  { mu := g.mu, rho := rhoU P b st T a g w, own := fun k => ownU b u (newName st T) (g.own k) }
section
variable {P : Program} {X : Nat → Nat → Prop} {w0 : World} {g0 g g' : Gho} {st st' b u : St} {a a' : Act} {w w' : World} {T : List Tok}
theorem newName_some {m0 m : Nat} (h : newName st T m0 = some m) : ∃ x ∈ T, x.2.2.2 = m ∧ apMark (apAt st x.1 x.2.1) = some m0 := by
  unfold newName at h
  rw [Option.map_eq_some_iff] at h
  obtain ⟨x, h1, h2⟩ := h
  have h3 := List.find?_some h1
  exact ⟨x, List.mem_of_find?_eq_some h1, h2, by simpa using h3⟩
theorem newName_of {m0 : Nat} (hd : nodup (tokMarks st T) = true) {x : Tok} (hx : x ∈ T) (hm : apMark (apAt st x.1 x.2.1) = some m0) : newName st T m0 = some x.2.2.2 := by
  cases h : newName st T m0 with
  | none =>
    unfold newName at h
    rw [Option.map_eq_none_iff, List.find?_eq_none] at h
    exact absurd (by simp [hm]) (h x hx)
  | some m =>
    obtain ⟨y, h1, h2, h3⟩ := newName_some h
    rw [tokMarks_uniq st hd x hx y h1 hm h3, h2]
theorem find_name (hd : nodup (T.map (·.2.2.2)) = true) {x : Tok} (hx : x ∈ T) : T.find? (fun y => y.2.2.2 == x.2.2.2) = some x := by
  cases h : T.find? (fun y => y.2.2.2 == x.2.2.2) with
  | none =>
    rw [List.find?_eq_none] at h
    exact absurd (by simp) (h x hx)
  | some y =>
    have h1 := List.find?_some h
    rw [names_uniq hd y (List.mem_of_find?_eq_some h) x hx (by simpa using h1) rfl]
theorem ownU_at {nn : Nat → Option Nat} {h : Gh} {o : Nat} (hh : (ownU b u nn h).at o) : h.at o := by
  cases h with
  | dat => exact hh
  | ob n => trivial
  | rw m => trivial
  | tl m s =>
    unfold ownU at hh
    simp only at hh
    split at hh
    · exact hh
    · split at hh
      · exact hh
      · exact hh.elim
theorem ownU_ne {nn : Nat → Option Nat} {h : Gh} (hh : ownU b u nn h ≠ .dat) : h ≠ .dat := by
  rintro rfl
  exact hh rfl
theorem ownU_tk {nn : Nat → Option Nat} {h : Gh} {m : Nat} (hh : (ownU b u nn h).isTk m) : (h.isTk m ∧ m ∈ b.protT ∧ ownU b u nn h = h) ∨
    ∃ m0, m0 ∉ b.protT ∧ nn m0 = some m ∧ ((∃ s, h = .tl m0 s ∧ ownU b u nn h = .tl m s) ∨ (h = .rw m0 ∧ ownU b u nn h = .rw m)) := by
  cases h with
  | dat => rcases hh with ⟨_, hh⟩ | hh <;> cases hh
  | ob n =>
    unfold ownU at hh
    simp only at hh
    split at hh <;> rcases hh with ⟨_, hh⟩ | hh <;> cases hh
  | rw m0 =>
    by_cases hm : m0 ∈ b.protT
    · have he : ownU b u nn (.rw m0) = .rw m0 := if_pos hm
      rw [he] at hh ⊢
      rcases hh with ⟨_, hh⟩ | hh
      · cases hh
      · cases hh; exact .inl ⟨.inr rfl, hm, rfl⟩
    · cases hn : nn m0 with
      | none =>
        have he : ownU b u nn (.rw m0) = .dat := by unfold ownU; simp only [if_neg hm, hn]
        rw [he] at hh
        rcases hh with ⟨_, hh⟩ | hh <;> cases hh
      | some m' =>
        have he : ownU b u nn (.rw m0) = .rw m' := by unfold ownU; simp only [if_neg hm, hn]
        rw [he] at hh ⊢
        rcases hh with ⟨_, hh⟩ | hh
        · cases hh
        · cases hh; exact .inr ⟨m0, hm, hn, .inr ⟨rfl, rfl⟩⟩
  | tl m0 s =>
    by_cases hm : m0 ∈ b.protT
    · have he : ownU b u nn (.tl m0 s) = .tl m0 s := if_pos hm
      rw [he] at hh ⊢
      rcases hh with ⟨_, hh⟩ | hh
      · cases hh; exact .inl ⟨.inl ⟨s, rfl⟩, hm, rfl⟩
      · cases hh
    · cases hn : nn m0 with
      | none =>
        have he : ownU b u nn (.tl m0 s) = .dat := by unfold ownU; simp only [if_neg hm, hn]
        rw [he] at hh
        rcases hh with ⟨_, hh⟩ | hh <;> cases hh
      | some m' =>
        have he : ownU b u nn (.tl m0 s) = .tl m' s := by unfold ownU; simp only [if_neg hm, hn]
        rw [he] at hh ⊢
        rcases hh with ⟨_, hh⟩ | hh
        · cases hh; exact .inr ⟨m0, hm, hn, .inl ⟨s, rfl, rfl⟩⟩
        · cases hh
theorem ownU_rw {nn : Nat → Option Nat} {m0 m : Nat} (hm : m0 ∉ b.protT) (hn : nn m0 = some m) : ownU b u nn (.rw m0) = .rw m := by unfold ownU; simp only [if_neg hm, hn]
theorem ownU_tl {nn : Nat → Option Nat} {m0 m s : Nat} (hm : m0 ∉ b.protT) (hn : nn m0 = some m) : ownU b u nn (.tl m0 s) = .tl m s := by unfold ownU; simp only [if_neg hm, hn]
theorem ownU_keep {nn : Nat → Option Nat} {h : Gh} (hh : h.fx b.prot b.protT) : ownU b u nn h = h := by
  cases h with
  | dat => rfl
  | ob n => exact if_pos (.inr hh)
  | tl m s => exact if_pos hh
  | rw m => exact if_pos hh
/-- The owned cell, as it is. -/
theorem tok_ra (hr : Rel P X w0 g0 g' st' a' w') {x : Tok} (hx : TokOk P st' b x) : ∃ e s d, shp P e = some s ∧ kAt st' x.1 x.2.1 = some e ∧ sizeAt P st' x.1 x.2.1 = s.ks.length ∧ RA P X g' st' w' (.sl e) d (apAt st' x.1 x.2.1) (valAt a' g' w' x.1 x.2.1) ∧
    (x.2.1 = none → ∃ ag d0 ap, st'.fr.getD x.1 .undef = .dt ⟨ag, [.sl e]⟩ d0 [ap] ∧ ap = apAt st' x.1 x.2.1 ∧ d = Sh.at ⟨ag, [.sl e]⟩ d0 0) ∧
    (∀ j, x.2.1 = some j → ∃ s0 d0 aps, st'.hp.getD x.1 none = some (.cells s0 d0 aps) ∧ s0.ks[j]? = some (.sl e) ∧ d = s0.at d0 j) := by
  obtain ⟨i, j, bb, m⟩ := x
  obtain ⟨⟨e, s, h1, h2⟩, h3⟩ := hx
  simp only at h1 h3 ⊢
  have hsz : sizeAt P st' i j = s.ks.length := by unfold sizeAt; rw [h1]; simp [h2]
  have hnd : apAt st' i j ≠ .dead := by
    rcases h3 with h | ⟨h, _⟩ | ⟨_, h, _⟩ | ⟨_, h, _⟩ <;> rw [h] <;> simp
  cases j with
  | none =>
    unfold kAt at h1
    simp only at h1
    split at h1
    · rename_i ag e' d0 aps hfr
      cases h1
      have hap : ∃ ap, aps = [ap] := by
        unfold apAt at hnd
        simp only [hfr] at hnd
        split at hnd
        · rename_i ap h; cases h; exact ⟨ap, rfl⟩
        · exact absurd rfl hnd
      obtain ⟨ap, rfl⟩ := hap
      have hapv : apAt st' i none = ap := by unfold apAt; simp only [hfr]
      have hv := hr.slot i
      rw [hfr] at hv
      refine ⟨e, s, Sh.at ⟨ag, [.sl e]⟩ d0 0, h2, by unfold kAt; simp only [hfr], hsz, ?_, fun _ => ⟨ag, d0, ap, hfr, hapv.symm, rfl⟩, fun j hj => by cases hj⟩
      rw [hapv]
      exact hv.2.at_ 0 (.sl e) rfl
    · cases h1
  | some j =>
    unfold kAt at h1
    simp only at h1
    split at h1
    · rename_i s0 d0 aps hob
      split at h1
      · rename_i e' hk
        cases h1
        have hkj : s0.ks[j]? = some (.sl e) := by
          rw [List.getD_eq_getElem?_getD] at hk
          cases hkk : s0.ks[j]? with
          | none => rw [hkk] at hk; cases hk
          | some y => rw [hkk] at hk; simp at hk; rw [hk]
        have hapv : apAt st' i (some j) = aps.getD j .dead := by unfold apAt; simp only [hob]
        obtain ⟨cs, e2, h4, h5, h6, h7⟩ := hr.objs i _ hob
        refine ⟨e, s, s0.at d0 j, h2, by unfold kAt; simp only [hob, hk], hsz, ?_, fun h => (by cases h), fun j' hj => by cases hj; exact ⟨s0, d0, aps, hob, hkj, rfl⟩⟩
        rw [hapv]
        have : valAt a' g' w' i (some j) = cs.toList.getD j undef := by unfold valAt; simp only [h4]
        rw [this]
        exact h7.at_ j _ hkj
      · cases h1
    · cases h1
end
end Go.Proofs.Ytkimdfpmblhapaa.Va
