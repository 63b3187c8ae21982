/- The abstract interpreter over the loaded code, and parts of the proof that what it computes is what the call comes to. No condition beyond those that each theorem states. -/
import Derived.Test.YtkimdfpmblhapaaA4
import Derived.LoopN
set_option linter.unusedVariables false
set_option linter.unusedSimpArgs false
set_option linter.constructorNameAsVariable false
/- What goes into a loop and out of it: the state behind it. -/
set_option linter.unusedVariables false
set_option linter.unusedSimpArgs false
namespace Go.Proofs.Ytkimdfpmblhapaa.Va
open Go.RowKit

def inside (st b : St) : St := { st with prot := b.prot, protM := b.protM, protS := b.protS, protT := b.protT }
theorem un_same (P : Program) (f : Ifc) (b : St) (ds : List D) : Same b (f.un P b ds) := by
  unfold Ifc.un
  refine Same.trans (b := { b with fr := unS P f.slots ds 0 b.fr, hp := unO f.objs ds f.slots.length b.hp }) ⟨rfl, rfl, by simp [unS_length], by simp [unO_length], rfl, rfl, rfl, rfl, rfl⟩ (unT_same f.toks _)
theorem un_tk (P : Program) (f : Ifc) (b : St) (ds : List D) (m : Nat) : (f.un P b ds).tk.getD m none = if m ∈ f.toks.map (·.2.2.2) ∧ m < b.tk.length then some true else b.tk.getD m none := by
  unfold Ifc.un
  rw [unT_tk]
theorem un_has (P : Program) (f : Ifc) (b : St) (ds : List D) (ho : nodup f.objs = true) (n : Nat) : (f.un P b ds).has n = b.has n := by
  unfold St.has Ifc.un
  have h1 := unT_hp n f.toks { b with fr := unS P f.slots ds 0 b.fr, hp := unO f.objs ds f.slots.length b.hp }
  simp only at h1
  have h2 : ((unO f.objs ds f.slots.length b.hp).getD n none).isSome = (b.hp.getD n none).isSome := by
    rcases unO_getD n f.objs ds f.slots.length b.hp ho with ⟨_, h⟩ | ⟨idx, _, h⟩
    · rw [h]
    · rw [h]
      cases b.hp.getD n none with
      | none => rfl
      | some o => cases o <;> rfl
  rw [← h2]
  revert h1
  cases (unO f.objs ds f.slots.length b.hp).getD n none with
  | none => intro h; rw [h]
  | some o =>
    cases o with
    | cells s d aps => rintro ⟨aps', h, _⟩; rw [h]; rfl
    | map k v d => intro h; rw [h]
section
variable {P : Program} {X : Nat → Nat → Prop} {w0 : World} {g0 g g' : Gho} {st st' b : St} {a a' : Act} {w w' : World} {f : Ifc} {ds : List D} {ms : List Nat}
theorem ra_ro {k : LK} {d : D} {v : Value} (hst : Stay w (Wr X g) w' (Wr X g')) (h : RL P w (Wr X g) k d v) (h1 : v.oneCell' = true) : RA P X g' st' w' k d .ro v := ⟨h1, h.mono hst⟩
theorem rx_gho {ok : Nat → Bool} {x : XV} {v : Value} (h : RX g ok x v) (hm : ∀ n, g'.mu n = g.mu n) : RX g' ok x v := by
  induction h with
  | nilp => exact .nilp
  | nilm => exact .nilm
  | nilf => exact .nilf
  | ptr n off hn => rw [← hm n]; exact .ptr n off hn
  | mp n hn => rw [← hm n]; exact .mp n hn
  | fn f a b va vb ha hb _ _ i1 i2 => exact .fn f a b va vb ha hb i1 i2
theorem ext_getD : ∀ {l r : List Ap}, l.length = r.length → (∀ j, l.getD j .dead = r.getD j .dead) → l = r
  | [], [], _, _ => rfl
  | [], _ :: _, h, _ => by cases h
  | _ :: _, [], h, _ => by cases h
  | a :: l, b :: r, h, hj => by rw [show a = b from hj 0, ext_getD (by simpa using h) (fun j => hj (j + 1))]
theorem cast_sl {t e : TypeId} {ag : Bool} {d : D} {ap : List Ap} : cast P t (.dt ⟨ag, [.sl e]⟩ d ap) = .dt ⟨ag, [.sl e]⟩ d ap := by
  unfold cast
  split
  · rename_i h; cases h
  · rename_i h; cases h
  · rfl
theorem repack (K : Kept st b ms) (hb : Rel P X w g g (inside st b) a w) (hPT : ∀ m, m ∈ b.protT → liveTk b m = true) (hr : Rel P X w g g' st' a' w') (hs : Same (inside st b) st')
    (hS : ∀ i, i ∈ b.protS → a'.tmps.getD i undef = a.tmps.getD i undef) (hp : PackOk P f b st' ds) : ∃ g'', Rel P X w g g'' (f.un P b ds) a' w' := by
  have hlu : ∀ m, liveTk (f.un P b ds) m = true ↔ (liveTk b m = true ∨ m ∈ f.toks.map (·.2.2.2)) := fun m => by
    rw [liveTk_iff, un_tk, liveTk_iff]
    by_cases h : m ∈ f.toks.map (·.2.2.2)
    · obtain ⟨x, hx, rfl⟩ := List.mem_map.1 h
      rw [if_pos ⟨h, (hp.fresh x hx).1⟩]
      exact ⟨fun _ => .inr h, fun _ => rfl⟩
    · rw [if_neg (fun h' => h h'.1)]
      exact ⟨.inl, fun h' => h'.resolve_right h⟩
  have hkb : ∀ m, knownTk b m → liveTk b m = true ∧ m ∈ b.protT := fun m hm => by
    rcases K.tk m with ⟨h1, _, _, h2⟩ | ⟨h1, _⟩
    · exact ⟨liveTk_iff.2 h1, h2⟩
    · unfold knownTk at hm; rw [h1] at hm; cases hm
  have hlk : ∀ {s : St} {m : Nat}, liveTk s m = true → knownTk s m := fun {s m} h => by unfold knownTk; rw [liveTk_iff.1 h]; rfl
  have hnf : ∀ x ∈ f.toks, x.2.2.2 ∉ b.protT := fun x hx hm => by
    have := liveTk_iff.1 (hPT _ hm)
    rw [(hp.fresh x hx).2] at this
    cases this
  have hprT : st'.protT = b.protT := hs.protT
  have hprM : st'.protM = b.protM := hs.protM
  have hpr : st'.prot = b.prot := hs.prot
  have hnb : st'.nb = b.nb := hs.nb.trans K.nb.symm
  -- the way from the snapshot
  generalize hu : f.un P b ds = u at *
  have hsu : Same b u := hu ▸ un_same P f b ds
  have hhu : ∀ n, u.has n = b.has n := fun n => hu ▸ un_has P f b ds hp.objs n
  let G := ghoU P b u st' f.toks a' g' w'
  have hGown : ∀ k, G.own k = ownU b u (newName st' f.toks) (g'.own k) := fun _ => rfl
  have hGrho : ∀ m, m ∈ b.protT → G.rho m = g'.rho m := fun m hm => if_pos hm
  have hGtok : ∀ x ∈ f.toks, G.rho x.2.2.2 = (valAt a' g' w' x.1 x.2.1, sizeAt P st' x.1 x.2.1) := fun x hx => by
    show rhoU P b st' f.toks a' g' w' x.2.2.2 = _
    unfold rhoU
    rw [if_neg (hnf x hx), find_name hp.names hx]
  have hst' : Stay w' (Wr X g') w' (Wr X G) := fun k o v hc hw => ⟨hc, fun h => hw (h.imp id ownU_at)⟩
  have hstay : Stay w (Wr X g) w' (Wr X G) := (stay_fr hr.fr hr.xown).trans hst'
  have hold : ∀ k, (g.own k).fx b.prot b.protT → g.own k ≠ .dat → w'.heap[k]? = w.heap[k]? ∧ g'.own k = g.own k ∧ G.own k = g.own k := fun k hk hd => by
    obtain ⟨h1, h2⟩ := hr.fr.old k (hb.fr.lt k hd) (by rw [hpr, hprT]; exact hk)
    exact ⟨h1, h2, by rw [hGown, h2]; exact ownU_keep hk⟩
  have ht : To P X g b w G u w' := by
    refine ⟨hstay, fun n hn => ?_, fun n hn => by rw [hhu]; exact hn, fun m hm => ?_, fun m hm hl => ?_, fun k m hk hm _ => ?_, fun k m hm _ hk => ?_⟩
    · obtain ⟨o, ho⟩ := Option.isSome_iff_exists.1 hn
      exact hr.fr.mu n (.inr (by rw [hprM]; exact (K.objs n o ho).1))
    · exact hlk ((hlu m).2 (.inl (hkb m hm).1))
    · obtain ⟨h1, h2⟩ := hkb m hm
      exact ⟨h1, (hGrho m h2).trans (hr.fr.rho m (by rw [hprT]; exact h2))⟩
    · obtain ⟨h1, h2⟩ := hkb m hm
      obtain ⟨h3, _, h4⟩ := hold k (by rw [hk]; exact h2) (by rw [hk]; simp)
      exact ⟨h3, h4.trans hk⟩
    · obtain ⟨h1, h2⟩ := hkb m hm
      rcases ownU_tk hk with ⟨h3, h4, h5⟩ | ⟨m0, h3, h4, _⟩
      · rw [hGown, h5]
        exact hr.fr.back k m (by rw [hprT]; exact h2) h3
      · obtain ⟨x, hx, h6, _⟩ := newName_some h4
        exact absurd h2 (h6 ▸ hnf x hx)
  -- owned cells
  have hpt : ∀ x ∈ f.toks, ∀ k, (G.own k).isTk x.2.2.2 → ∃ m0, apMark (apAt st' x.1 x.2.1) = some m0 ∧ ((∃ s, g'.own k = .tl m0 s ∧ G.own k = .tl x.2.2.2 s) ∨ (g'.own k = .rw m0 ∧ G.own k = .rw x.2.2.2)) := fun x hx k hk => by
    rcases ownU_tk hk with ⟨_, h4, _⟩ | ⟨m0, h3, h4, h5⟩
    · exact absurd h4 (hnf x hx)
    · obtain ⟨y, hy, h6, h7⟩ := newName_some h4
      have : y = x := names_uniq hp.names y hy x hx h6 rfl
      subst this
      exact ⟨m0, h7, h5⟩
  have hown : ∀ x ∈ f.toks, ∀ m0, apMark (apAt st' x.1 x.2.1) = some m0 → m0 ∉ b.protT ∧ (∀ k, g'.own k = .rw m0 → G.own k = .rw x.2.2.2) ∧ (∀ k s, g'.own k = .tl m0 s → G.own k = .tl x.2.2.2 s) := fun x hx m0 hm => by
    have h1 := newName_of hp.src hx hm
    have h2 : m0 ∉ b.protT := by
      rcases (hp.tok x hx).2 with h | ⟨h, _⟩ | ⟨m, h, _, _, h2⟩ | ⟨m, h, _, _, h2⟩
      · rw [h] at hm; cases hm
      · rw [h] at hm; cases hm
      · rw [h] at hm; cases hm; exact h2
      · rw [h] at hm; cases hm; exact h2
    exact ⟨h2, fun k hk => by rw [hGown, hk]; exact ownU_rw h2 h1, fun k s hk => by rw [hGown, hk]; exact ownU_tl h2 h1⟩
  have hra : ∀ x ∈ f.toks, ∀ e d, kAt st' x.1 x.2.1 = some e → RA P X g' st' w' (.sl e) d (apAt st' x.1 x.2.1) (valAt a' g' w' x.1 x.2.1) → RA P X G u w' (.sl e) d (mkAp x.2.2.1 x.2.2.2) (valAt a' g' w' x.1 x.2.1) := fun x hx e d hk h => by
    obtain ⟨⟨e', s, h1, h2⟩, h3⟩ := hp.tok x hx
    rw [hk] at h1
    cases h1
    have hkn : knownTk u x.2.2.2 := hlk ((hlu _).2 (.inr (List.mem_map.2 ⟨x, hx, rfl⟩)))
    have hsz : G.rho x.2.2.2 = (valAt a' g' w' x.1 x.2.1, s.ks.length) := by
      rw [hGtok x hx]
      unfold sizeAt
      rw [hk]
      simp [h2]
    have hno : ∀ k, (G.own k).isTk x.2.2.2 → ∀ q, apAt st' x.1 x.2.1 = q → apMark q = none → False := fun k hk q hq hn => by
      obtain ⟨m0, h, _⟩ := hpt x hx k hk
      rw [hq, hn] at h
      cases h
    refine ⟨h.1, ?_⟩
    have h4 := h.2
    rcases h3 with h3 | ⟨h3, hbb⟩ | ⟨m0, h3, hbb, hl0, hp0⟩ | ⟨m0, h3, hbb, hl0, hp0⟩
    · rw [h3] at h4
      cases hbv : x.2.2.1 with
      | false => exact ⟨h4.1.mono hst', hkn, fun _ => ⟨fun k hk => hno k (.inr hk) _ h3 rfl, e, s, rfl, h2, hsz⟩⟩
      | true =>
        have hd : d.toL = [] := by
          have := h4.1
          rw [h4.2] at this
          cases this with
          | nil _ _ h => exact h
          | sl _ _ _ _ _ _ _ _ _ _ hn _ _ _ _ _ => exact List.eq_nil_of_length_eq_zero hn
        refine ⟨hkn, fun _ => ⟨fun k s' hk => hno k (.inl ⟨s', hk⟩) _ h3 rfl, e, s, none, 0, 0, 0, 0, fun _ _ => undef, rfl, h2, h4.2, hsz, by rw [hd]; rfl, Nat.le_refl _, by decide, fun h => absurd h (by decide), fun i j hi => absurd hi (Nat.not_lt_zero _), fun i j k hi => absurd hi (Nat.not_lt_zero _)⟩⟩
    · rw [h3] at h4
      rw [hbb]
      exact ⟨h4.1.mono hst', hkn, fun _ => ⟨fun k hk => hno k (.inr hk) _ h3 rfl, e, s, rfl, h2, hsz⟩⟩
    · rw [h3] at h4
      rw [hbb]
      obtain ⟨h5, h6⟩ := h4.2.2 hl0
      refine ⟨h4.1.mono hst', hkn, fun _ => ⟨fun k hk => ?_, e, s, rfl, h2, hsz⟩⟩
      obtain ⟨m1, h7, ⟨s', _, h8⟩ | ⟨h8, _⟩⟩ := hpt x hx k (.inr hk)
      · rw [hk] at h8; cases h8
      · rw [h3] at h7; cases h7; exact h5 k h8
    · rw [h3] at h4
      rw [hbb]
      obtain ⟨h5, e1, s1, p, n, c, bb, o, uu, r1, r2, r3, r4, r5, r6, r7, r8, r9, r10⟩ := h4.2 hl0
      cases r1
      rw [h2] at r2
      cases r2
      refine ⟨hkn, fun _ => ⟨fun k s' hk => ?_, e, s, p, n, c, bb, o, uu, rfl, h2, r3, hsz, r5, r6, r7, fun h0 => ⟨(r8 h0).1, (hown x hx m0 (by rw [h3]; rfl)).2.1 _ (r8 h0).2⟩, r9, fun i j k hi hj => (r10 i j k hi hj).mono hst'⟩⟩
      obtain ⟨m1, h7, ⟨s2, h8, _⟩ | ⟨_, h8⟩⟩ := hpt x hx k (.inl ⟨s', hk⟩)
      · rw [h3] at h7; cases h7; exact h5 k s2 h8
      · rw [hk] at h8; cases h8
  have hkd : ∀ m, m ∉ ms → knownTk (inside st b) m → knownTk b m := fun m hm hk => by
    rcases K.tk m with ⟨h1, _⟩ | ⟨_, h1 | h1⟩
    · unfold knownTk; rw [h1]; rfl
    · unfold knownTk at hk
      rw [show (inside st b).tk = st.tk from rfl, h1] at hk
      cases hk
    · exact absurd h1 hm
  have hld : ∀ m, liveTk b m = true → liveTk (inside st b) m = true := fun m hm => by
    rcases K.tk m with ⟨_, h1, _⟩ | ⟨h1, _⟩
    · exact liveTk_iff.2 h1
    · rw [liveTk_iff, h1] at hm; cases hm
  have hufr : u.fr = (unT f.toks { b with fr := unS P f.slots ds 0 b.fr, hp := unO f.objs ds f.slots.length b.hp }).fr := by rw [← hu]; rfl
  have huhp : u.hp = (unT f.toks { b with fr := unS P f.slots ds 0 b.fr, hp := unO f.objs ds f.slots.length b.hp }).hp := by rw [← hu]; rfl
  refine ⟨G, hr.dfr, ?_, fun i => ?_, fun n o ho => ?_, fun m hm => ?_, ?_, hr.xlt, fun k o hx => ?_, fun k m hk => ?_, fun m hm => ?_⟩
  · rw [hr.siz, hs.fr, hsu.fr, K.lfr]; rfl
  · -- a slot
    have h1 := unT_fr i f.toks { b with fr := unS P f.slots ds 0 b.fr, hp := unO f.objs ds f.slots.length b.hp }
    rw [← hufr] at h1
    simp only [unS_length] at h1
    rcases unS_getD i f.slots ds 0 b.fr hp.slots with ⟨h2, h3⟩ | ⟨idx, t, h2, h3⟩
    · have h4 : u.fr.getD i .undef = b.fr.getD i .undef := by
        rcases h1 with ⟨_, h⟩ | ⟨bb, m, h, _⟩
        · exact h.trans h3
        · exact absurd (hp.inS _ h rfl) h2
      rw [h4]
      rcases K.slot i with h | ⟨h5, h6, h7, h8⟩
      · rw [h]; trivial
      · rw [hS i h8, h5]
        exact (rv_drop (hb.slot i) h6 h7 hkd hld).to ht
    · obtain ⟨s, d, aps, h4, h5, h6, h7⟩ := hp.slot idx i t h2
      have hil : i < b.fr.length := by
        have := getD_lt (z := AV.undef) (show st'.fr.getD i .undef ≠ .undef by rw [h4]; simp)
        rw [hs.fr] at this
        rw [K.lfr]
        exact this
      have h8 := h3 hil
      rw [h6] at h8
      unfold slotAV at h8
      rw [h5] at h8
      simp only at h8
      have hv := hr.slot i
      rw [h4] at hv
      rcases h1 with ⟨hno, h⟩ | ⟨bb, m, hmem, h⟩
      · have hda := h7.resolve_right (fun ⟨b', m', h⟩ => hno b' m' h)
        rw [h.trans h8]
        refine cast_rv (x := .dt s d (roAps s.ks)) ⟨hv.1, ?_⟩
        have h9 := hv.2.ro (fun j hj => List.all_eq_true.1 hda _ (by
          have : j < aps.length := by rw [hv.2.lap]; exact hj
          rw [List.getD_eq_getElem?_getD, List.getElem?_eq_getElem this]
          exact List.getElem_mem this))
        refine ⟨h9.len, h9.lap, fun j k hj => ?_⟩
        have h10 := h9.at_ j k hj
        rw [roAps_getD _ _ (List.getElem?_eq_some_iff.1 hj).1] at h10 ⊢
        exact ⟨h10.1, h10.2.mono hst'⟩
      · rw [if_pos hil, h8] at h
        obtain ⟨e, s1, dd, e1, e2, e3, e4, e5, _⟩ := tok_ra hr (hp.tok _ hmem)
        obtain ⟨ag, d0, ap, e6, e7, e8⟩ := e5 rfl
        rw [h4] at e6
        cases e6
        rw [cast_sl] at h
        rw [h]
        refine ⟨hv.1, hv.2.len, rfl, fun j k hj => ?_⟩
        match j, hj with
        | 0, hj =>
          simp at hj
          subst hj
          rw [e8] at e4
          exact hra _ hmem e _ e2 e4
        | j + 1, hj => simp at hj
  · -- a variable
    have hun : u.has n = true := by unfold St.has; rw [ho]; rfl
    have hbn : b.has n = true := by rw [← hhu]; exact hun
    obtain ⟨o0, ho0⟩ := Option.isSome_iff_exists.1 hbn
    have h1 := unT_hp n f.toks { b with fr := unS P f.slots ds 0 b.fr, hp := unO f.objs ds f.slots.length b.hp }
    rw [← huhp] at h1
    simp only at h1
    have hGob : ∀ k, g'.own k = .ob n → G.own k = .ob n := fun k hk => by rw [hGown, hk]; exact if_pos (.inl hun)
    rcases unO_getD n f.objs ds f.slots.length b.hp hp.objs with ⟨h2, h3⟩ | ⟨idx, h2, h3⟩
    · have hoo : o = o0 := by
        rw [h3, ho0] at h1
        cases o0 with
        | map k v d => simp only at h1; rw [h1] at ho; cases ho; rfl
        | cells s d aps =>
          simp only at h1
          obtain ⟨aps', h4, h5, h6⟩ := h1
          rw [h4] at ho
          cases ho
          rw [ext_getD h5 (fun j => by
            rcases h6 j with h | ⟨bb, m, h, _⟩
            · exact h.2
            · exact absurd (hp.inO _ h (by simp)) h2)]
      subst hoo
      have hnp : n ∈ b.prot := (hp.cover n o ho0).resolve_right h2
      obtain ⟨_, os, o1, h4, h5, h6 | h6⟩ := K.objs n o ho0
      · have h7 := h6.2
        subst h7
        have hro := ro_drop (b := b) (hb.objs n os h4) h5 (hp.closed n o ho0) hkd hld
        have hown0 := obj_own hro
        obtain ⟨h8, h9, h10⟩ := hold (g.mu n) (by rw [hown0]; exact hnp) (by rw [hown0]; simp)
        exact hro.to ht hbn h8 h10
      · exact absurd hnp h6.1
    · rcases hp.obj idx n h2 with ⟨s, d, aps, d0, aps0, h4, h5, h6, h7, h8⟩ | ⟨kt, vt, d, d0, h4, h5, h6⟩
      · rw [h3, h5, h6] at h1
        simp only [objAV] at h1
        obtain ⟨aps', h9, h10, h11⟩ := h1
        rw [h9] at ho
        cases ho
        obtain ⟨cs, e, e1, e2, e3, e4⟩ := hr.objs n _ h4
        refine ⟨cs, e, e1, hGob _ e2, e3, e4.len, by rw [h10, ← h7]; exact e4.lap, fun j k hj => ?_⟩
        have hjl : j < aps0.length := by rw [← h7, e4.lap]; exact (List.getElem?_eq_some_iff.1 hj).1
        have h12 := e4.at_ j k hj
        rcases h11 j with ⟨hno, h13⟩ | ⟨bb, m, hmem, h13⟩
        · rw [h13]
          have h14 := h8 j hjl
          revert h14
          cases h15 : aps0.getD j .dead with
          | ro =>
            intro h14
            rcases h14 with h14 | ⟨b', m', h14⟩
            · exact ⟨h12.1, (data_rl h14 h12).mono hst'⟩
            · exact absurd h14 (hno b' m')
          | dead => exact fun _ => ⟨h12.1, trivial⟩
          | x v0 =>
            intro h14
            have h14 : aps.getD j .dead = .x v0 := h14
            rw [h14] at h12
            exact ⟨h12.1, rx_gho (rx_has h12.2 (fun k hk => by rw [hhu]; exact hp.closed n _ h5 k (apNames_at h15 hk))) (fun _ => rfl)⟩
          | nl => exact fun h => h.elim
          | full => exact fun h => h.elim
          | own _ => exact fun h => h.elim
          | arr _ => exact fun h => h.elim
        · rw [h13 hjl]
          obtain ⟨e', s1, dd, f1, f2, f3, f4, _, f5⟩ := tok_ra hr (hp.tok _ hmem)
          obtain ⟨s0, d00, aps00, f6, f7, f8⟩ := f5 j rfl
          rw [h4] at f6
          cases f6
          rw [hj] at f7
          cases f7
          rw [f8] at f4
          have := hra _ hmem e' _ f2 f4
          have hval : valAt a' g' w' n (some j) = cs.toList.getD j undef := by unfold valAt; simp only [e1]
          rw [← hval]
          exact this
      · rw [h3, h5, h6] at h1
        simp only [objAV] at h1
        rw [h1] at ho
        cases ho
        obtain ⟨es, clock, k, sv, e1, e2, e3, e4, e5, e6⟩ := hr.objs n _ h4
        refine ⟨es, clock, k, sv, e1, hGob _ e2, e3, e4, e5, fun i p hp' => ?_⟩
        obtain ⟨q, e7, e8, e9, e10⟩ := e6 i p hp'
        refine ⟨q, e7, e8.mono hst', e9, e10.len, e10.lap, fun j kk hj => ?_⟩
        have h10 := e10.at_ j kk hj
        rw [roAps_getD _ _ (List.getElem?_eq_some_iff.1 hj).1] at h10 ⊢
        exact ⟨h10.1, h10.2.mono hst'⟩
  · -- a mark
    rcases (hlu m).1 hm with h | h
    · have hT := (hkb m (hlk h)).2
      refine (hb.toks m (hld m h)).to' (ht.live m (hlk h) hm).2 (fun k hk => ?_) (fun k hk => ?_)
      · rw [← ht.back k m (hlk h) hm (.inr hk)]; exact hk
      · have hfx : (g.own k).fx b.prot b.protT := by rcases hk with ⟨s, hk⟩ | hk <;> rw [hk] <;> exact hT
        obtain ⟨h1, _, h2⟩ := hold k hfx (by rcases hk with ⟨s, hk⟩ | hk <;> rw [hk] <;> simp)
        exact ⟨h1, h2⟩
    · obtain ⟨x, hx, rfl⟩ := List.mem_map.1 h
      obtain ⟨e, s, d, e1, e2, e3, e4, _, _⟩ := tok_ra hr (hp.tok x hx)
      have hno : ∀ k, (G.own k).isTk x.2.2.2 → ∀ q, apAt st' x.1 x.2.1 = q → apMark q = none → False := fun k hk q hq hn => by
        obtain ⟨m0, h, _⟩ := hpt x hx k hk
        rw [hq, hn] at h
        cases h
      have hold2 : ∀ m0, apMark (apAt st' x.1 x.2.1) = some m0 → liveTk st' m0 = true → g'.rho m0 = (valAt a' g' w' x.1 x.2.1, s.ks.length) → RT G w' x.2.2.2 := fun m0 hm0 hl0 hrho => by
        obtain ⟨_, h5, h6⟩ := hown x hx m0 hm0
        have hG : G.rho x.2.2.2 = g'.rho m0 := by rw [hGtok x hx, e3, hrho]
        obtain ⟨p, n, c, h7, h8, h9⟩ := hr.toks m0 hl0
        refine ⟨p, n, c, by rw [hG]; exact h7, h8, ?_⟩
        rw [hG]
        rcases h9 with ⟨h9, h10⟩ | ⟨bb, cs, et, h9, h10, h11, h12⟩
        · refine .inl ⟨h9, fun k hk => ?_⟩
          obtain ⟨m1, h13, ⟨s', _, h14⟩ | ⟨h14, _⟩⟩ := hpt x hx k (.inr hk)
          · rw [hk] at h14; cases h14
          · rw [hm0] at h13; cases h13; exact h10 k h14
        · refine .inr ⟨bb, cs, et, h9, h10, h11, ?_⟩
          rcases h12 with h12 | h12
          · exact .inl (h6 bb _ h12)
          · exact .inr (h5 bb h12)
      rcases (hp.tok x hx).2 with h3 | ⟨h3, hbb⟩ | ⟨m0, h3, hbb, hl0, hp0⟩ | ⟨m0, h3, hbb, hl0, hp0⟩
      · rw [h3] at e4
        exact ⟨none, 0, 0, by rw [hGtok x hx]; exact e4.2.2, Nat.le_refl _, .inl ⟨rfl, fun k hk => hno k (.inr hk) _ h3 rfl⟩⟩
      · rw [h3] at e4
        obtain ⟨_, p, n, h5⟩ := e4.2
        exact ⟨p, n, n, by rw [hGtok x hx]; exact h5, Nat.le_refl _, .inl ⟨rfl, fun k hk => hno k (.inr hk) _ h3 rfl⟩⟩
      · rw [h3] at e4
        obtain ⟨_, e5, s5, h5, h6, h7⟩ := e4.2.2.2 hl0
        cases h5
        rw [e1] at h6
        cases h6
        exact hold2 m0 (by rw [h3]; rfl) hl0 h7
      · rw [h3] at e4
        obtain ⟨_, e5, s5, p, n, c, bb, o, uu, r1, r2, r3, r4, _⟩ := e4.2.2 hl0
        cases r1
        rw [e1] at r2
        cases r2
        exact hold2 m0 (by rw [h3]; rfl) hl0 r4
  · -- the frame
    have hf := hr.fr
    rw [hnb, hpr, hprM, hprT] at hf
    rw [hsu.nb, hsu.prot, hsu.protM, hsu.protT]
    refine ⟨hf.os, hf.tape, hf.output, hf.size, fun k hk hfx => ?_, fun k hk => hf.lt k (ownU_ne hk), hf.mu, fun k m s hk h0 => ?_, fun m hm => (hGrho m hm).trans (hf.rho m hm), fun k m hm hk => ?_⟩
    · obtain ⟨h1, h2⟩ := hf.old k hk hfx
      exact ⟨h1, by rw [hGown, h2]; exact ownU_keep hfx⟩
    · obtain ⟨h1, h2⟩ := hf.tl k m s hk h0
      refine ⟨h1, ?_⟩
      rw [hGown]
      rcases h2 with h2 | ⟨m', s', h2, h3⟩
      · rw [h2]; exact .inl rfl
      · rw [h2]
        unfold ownU
        simp only
        split
        · exact .inr ⟨m', s', rfl, h3⟩
        · split
          · exact .inr ⟨_, s', rfl, h3⟩
          · exact .inl rfl
    · rcases ownU_tk hk with ⟨h3, _, h5⟩ | ⟨m0, _, h4, _⟩
      · rw [hGown, h5]; exact hf.back k m hm h3
      · obtain ⟨x, hx, h6, _⟩ := newName_some h4
        exact absurd hm (h6 ▸ hnf x hx)
  · rw [hGown, hr.xown k o hx]; rfl
  · rcases ownU_tk hk with ⟨_, h4, _⟩ | ⟨m0, _, h4, _⟩
    · exact (hlu m).2 (.inl (hPT m h4))
    · obtain ⟨x, hx, h6, _⟩ := newName_some h4
      exact (hlu m).2 (.inr (List.mem_map.2 ⟨x, hx, h6⟩))
  · rw [hsu.protT] at hm
    exact (hlu m).2 (.inl (hPT m hm))
end
end Go.Proofs.Ytkimdfpmblhapaa.Va

/- A piece of code. -/
set_option linter.unusedVariables false
set_option linter.unusedSimpArgs false
namespace Go.Proofs.Ytkimdfpmblhapaa.Va
open Go.RowKit

def toExit : Ex → Exit
  | .normal => .normal
  | .exit id => .exit id
  | .ret => .ret
theorem mem_deadOnes : ∀ (l : List (Option Bool)) (k x : Nat), x ∈ deadOnes k l → ∃ n, x = k + n ∧ l.getD n none = some false
  | [], k, x, h => by unfold deadOnes at h; cases h
  | a :: r, k, x, h => by
    unfold deadOnes at h
    split at h
    · rename_i h1; cases h1
    · rename_i h1
      cases h1
      rcases List.mem_cons.1 h with h | h
      · exact ⟨0, h, rfl⟩
      · obtain ⟨n, h1, h2⟩ := mem_deadOnes r (k + 1) x h
        exact ⟨n + 1, by omega, h2⟩
    · rename_i h1
      cases h1
      obtain ⟨n, h1, h2⟩ := mem_deadOnes r (k + 1) x h
      exact ⟨n + 1, by omega, h2⟩
theorem base_protT {st : St} {q qo : Nat → Bool} {vo : List Nat} {toks : List Tok} (h : ∀ m, m ∈ st.protT → liveTk st m = true) : ∀ m, m ∈ (base st q qo vo toks).protT → liveTk (base st q qo vo toks) m = true := fun m hm => by
  rcases List.mem_append.1 hm with hm | hm
  · obtain ⟨n, h1, h2⟩ := mem_liveOnes _ _ _ hm
    rw [Nat.zero_add] at h1
    subst h1
    exact liveTk_iff.2 h2
  · rcases (base_kept st q qo vo toks).tk m with ⟨h1, _⟩ | ⟨_, h1 | h1⟩
    · exact liveTk_iff.2 h1
    · have := liveTk_iff.1 (h m hm)
      rw [h1] at this
      cases this
    · rcases List.mem_append.1 h1 with h1 | h1
      · have := (List.mem_filter.1 h1).2
        simp [notIn] at this
        exact absurd hm this
      · obtain ⟨n, h2, h3⟩ := mem_deadOnes _ _ _ h1
        rw [Nat.zero_add] at h2
        subst h2
        have := liveTk_iff.1 (h m hm)
        rw [h3] at this
        cases this
theorem base_entry {st : St} {q qo : Nat → Bool} {vo : List Nat} {toks : List Tok} : ∀ x ∈ toks, ∀ m, apMark (apAt st x.1 x.2.1) = some m → m ∉ st.protT → m ∉ (base st q qo vo toks).protT := fun x hx m hm hn hT => by
  rcases List.mem_append.1 hT with hT | hT
  · obtain ⟨n, h1, h2⟩ := mem_liveOnes _ _ _ hT
    rw [Nat.zero_add] at h1
    subst h1
    rcases (base_kept st q qo vo toks).tk m with ⟨_, _, h1, _⟩ | ⟨h1, _⟩
    · exact h1 (List.mem_append_left _ (List.mem_filter.2 ⟨(mem_tokMarks st).2 ⟨x, hx, hm⟩, by simpa [notIn] using hn⟩))
    · have : (base st q qo vo toks).tk.getD m none = some true := h2
      rw [h1] at this
      cases this
  · exact hn hT
section
variable {P : Program} {cfs : FuncId → Nat → FCfg} {fc : FCfg} {env : Env} {X : Nat → Nat → Prop} {w0 : World} {g0 g g' : Gho} {st st' b u : St} {a a' : Act} {w w' : World} {f : Ifc} {ds : List D} {ms : List Nat}
theorem snap (hr : Rel P X w0 g0 g st a w) (K : Kept st b ms) (hPT : ∀ m, m ∈ b.protT → liveTk b m = true) : Rel P X w g g (inside st b) a w :=
  ⟨hr.dfr, hr.siz, fun i => (hr.slot i).to (To.same (st := st) (st' := inside st b) rfl rfl), fun n o ho => (hr.objs n o ho).to (To.same (st := st) (st' := inside st b) rfl rfl) (by unfold St.has; rw [show st.hp.getD n none = some o from ho]; rfl) rfl rfl, hr.toks, .refl hr.fr.lt _ _ _ _, fun b o h => Nat.lt_of_lt_of_le (hr.xlt b o h) hr.fr.size, hr.xown, hr.tkl, fun m hm => by
    rcases K.tk m with ⟨_, h1, _⟩ | ⟨h1, _⟩
    · exact liveTk_iff.2 h1
    · have := liveTk_iff.1 (hPT m hm)
      rw [h1] at this
      cases this⟩
theorem unsnap (hr : Rel P X w0 g0 g st a w) (K : Kept st b ms) (hu : Rel P X w g g' u a' w') (hs : Same (inside st b) u) : Rel P X w0 g0 g' (outer st u) a' w' := by
  refine ⟨hu.dfr, hu.siz, fun i => (hu.slot i).to (To.same (st := u) (st' := outer st u) rfl rfl), fun n o ho => (hu.objs n o ho).to (To.same (st := u) (st' := outer st u) rfl rfl) (by unfold St.has; rw [show u.hp.getD n none = some o from ho]; rfl) rfl rfl, hu.toks, ?_, hr.xlt, hu.xown, hu.tkl, fun m hm => hu.ptl m (by rw [hs.protT]; exact K.protT m hm)⟩
  have h1 := hu.fr
  rw [hs.prot, hs.protM, hs.protT, hs.nb] at h1
  show Fr w0 g0 u.nb st.prot st.protM st.protT g' w'
  rw [hs.nb]
  exact hr.fr.trans h1 K.prot K.protM K.protT
theorem cast_norm (t : TypeId) (s : Sh) (d : D) (ap : List Ap) : norm (cast P t (.dt s d ap)) = cast P t (.dt s d ap) := by
  unfold cast
  split
  · rename_i h; cases h
  · rfl
  · rename_i h1 h2
    rcases norm_cases (.dt s d ap) with ⟨d', ap', h⟩ | ⟨_, h⟩
    · exact absurd h (h2 d' ap')
    · exact h
theorem norm_tokAV (bb : Bool) (m : Nat) {x : AV} (h : norm x = x) : norm (tokAV bb m x) = tokAV bb m x := by
  unfold tokAV
  split
  · rename_i s d ap
    rcases norm_cases (.dt s d [ap]) with ⟨d', ap', he⟩ | ⟨hne, _⟩
    · cases he
      injection h with h1 h2 h3
      show AV.dt _ (.bool d.toBool) _ = AV.dt _ d _
      rw [h2]
    · rcases norm_cases (.dt s d [mkAp bb m]) with ⟨d', ap', he⟩ | ⟨_, h2⟩
      · cases he
        exact absurd rfl (hne d [ap])
      · exact h2
  · exact h
theorem un_nrm (hn : Nrm st) (K : Kept st b ms) (hp : nodup (f.slots.map (·.1)) = true) : Nrm (f.un P b ds) := fun i => by
  have h1 := unT_fr i f.toks { b with fr := unS P f.slots ds 0 b.fr, hp := unO f.objs ds f.slots.length b.hp }
  simp only [unS_length] at h1
  have h0 : norm ((unS P f.slots ds 0 b.fr).getD i .undef) = (unS P f.slots ds 0 b.fr).getD i .undef := by
    have hb : norm (b.fr.getD i .undef) = b.fr.getD i .undef := by
      rcases K.slot i with h | ⟨h, _⟩
      · rw [h]; rfl
      · rw [h]; exact norm_drop _ _ (hn i)
    rcases unS_getD (P := P) i f.slots ds 0 b.fr hp with ⟨_, h⟩ | ⟨idx, t, h2, h⟩
    · rw [h]; exact hb
    · by_cases hl : i < b.fr.length
      · rw [h hl]
        unfold slotAV
        split
        · exact cast_norm _ _ _ _
        · rfl
      · rw [List.getD_eq_getElem?_getD, List.getElem?_eq_none (by rw [unS_length]; omega)]
        rfl
  show norm ((unT f.toks _).fr.getD i .undef) = (unT f.toks _).fr.getD i .undef
  rcases h1 with ⟨_, h⟩ | ⟨bb, m, _, h⟩
  · rw [h]; exact h0
  · rw [h]
    split
    · exact norm_tokAV _ _ h0
    · exact h0
theorem region_sound (henv : CallOk P cfs env) (hm : P.follows .mixedOrders = true) {id : Nat} {ops : Array Oper} {draw : Bool} (hn : Nrm st)
    (h : stepsDO P cfs fc env draw ops.toList st = some st') (hr : Rel P X w0 g0 g st a w) {Q : Exit → Act → World → Prop}
    (hK : ∀ g' a' w', Rel P X w0 g0 g' st' a' w' → (∀ i, i ∈ st.protS → a'.tmps.getD i undef = a.tmps.getD i undef) → Q .normal a' w') : (Code.region id ops draw).wp P Q a w := by
  have hs := stepsDO_same h
  unfold stepsDO at h
  cases draw with
  | false => exact wp_region_list (stepsO_list' henv ops.toList st st' g a w h hr hK)
  | true =>
    simp only [if_true] at h
    split at h
    · rename_i hlex
      exact draw_sound henv hm hlex h hr fun g' a' w' hr' hS => hK g' a' w' hr' fun i hi => hS i (by rw [hs.protS]; exact hi)
    · cases h
/-- All together: a way into a loop, or out of it. -/
structure Into (P : Program) (X : Nat → Nat → Prop) (w0 : World) (g0 : Gho) (st b : St) (a : Act) (w : World) (g : Gho) : Prop where
  rel : Rel P X w0 g0 g st a w
  nrm : Nrm st
  kept : ∃ ms, Kept st b ms
  live : ∀ m, m ∈ b.protT → liveTk b m = true
theorem Into.repack (I : Into P X w0 g0 st b a w g) (hr : Rel P X w g g' st' a' w') (hs : Same (inside st b) st') (hS : ∀ i, i ∈ b.protS → a'.tmps.getD i undef = a.tmps.getD i undef) (hp : PackOk P f b st' ds) :
    (∃ g'', Rel P X w g g'' (f.un P b ds) a' w') ∧ Nrm (f.un P b ds) ∧ Same (inside st b) (f.un P b ds) := by
  obtain ⟨ms, K⟩ := I.kept
  refine ⟨Va.repack K (snap I.rel K I.live) I.live hr hs hS hp, un_nrm I.nrm K hp.slots, ?_⟩
  exact Same.trans (b := b) ⟨K.nb, K.tb, K.lfr, K.lhp, K.ltk, rfl, rfl, rfl, rfl⟩ (un_same P f b ds)
theorem Into.out (I : Into P X w0 g0 st b a w g) (hu : Rel P X w g g' u a' w') (hn : Nrm u) (hs : Same (inside st b) u) (hS : ∀ i, i ∈ b.protS → a'.tmps.getD i undef = a.tmps.getD i undef) :
    Rel P X w0 g0 g' (outer st u) a' w' ∧ Nrm (outer st u) ∧ Same st (outer st u) ∧ (∀ i, i ∈ st.protS → a'.tmps.getD i undef = a.tmps.getD i undef) := by
  obtain ⟨ms, K⟩ := I.kept
  exact ⟨unsnap I.rel K hu hs, hn.of_fr rfl, ⟨hs.nb, hs.tb, hs.fr, hs.hp, hs.tk, rfl, rfl, rfl, rfl⟩, fun i hi => hS i (K.protS i hi)⟩
theorem into_base (q qo : Nat → Bool) (vo : List Nat) (toks : List Tok) (hr : Rel P X w0 g0 g st a w) (hn : Nrm st) : Into P X w0 g0 st (base st q qo vo toks) a w g :=
  ⟨hr, hn, ⟨_, base_kept st q qo vo toks⟩, base_protT hr.ptl⟩
theorem apAt_inside (i : Nat) (j : Option Nat) : apAt (inside st b) i j = apAt st i j := by cases j <;> rfl
theorem tokMarks_inside : ∀ (T : List Tok), tokMarks (inside st b) T = tokMarks st T
  | [] => rfl
  | (i, j, bb, m) :: r => by unfold tokMarks; rw [tokMarks_inside r, apAt_inside]
theorem pack_inside (hp : PackOk P f b st ds) : PackOk P f b (inside st b) ds :=
  ⟨hp.slot, hp.obj, fun x hx => by
    have h := hp.tok x hx
    unfold TokOk at h ⊢
    rw [apAt_inside]
    have hk : kAt (inside st b) x.1 x.2.1 = kAt st x.1 x.2.1 := by cases x.2.1 <;> rfl
    rw [hk]
    exact h, by rw [tokMarks_inside]; exact hp.src, hp.inS, hp.inO, hp.closed, hp.cover, hp.fresh, hp.names, hp.slots, hp.objs⟩
theorem exitOf_spec {e : Ex} : ∀ {l : List (Option Nat × Ifc)} {i j : Nat}, exitOf l i e = some (j, f) → e ≠ .normal → i ≤ j ∧ ∀ (b st : St) (k : Ex → St → Option R) (ds : List D) (r : R), afterLoop P st b k l i (j, ds) = some r → k e (outer st (f.un P b ds)) = some r
  | [], i, j, h, _ => by cases h
  | (o, f0) :: l, i, j, h, hne => by
    unfold exitOf at h
    split at h
    · rename_i hx
      cases h
      have he : exOf o = e := by
        cases o with
        | none => cases e <;> simp [isExit] at hx <;> rfl
        | some q => cases e <;> simp [isExit] at hx; rw [hx]; rfl
      refine ⟨Nat.le_refl _, fun b st k ds r h => ?_⟩
      cases l with
      | nil =>
        unfold afterLoop at h
        rw [if_pos rfl, he] at h
        exact h
      | cons x l =>
        unfold afterLoop at h
        rw [if_pos rfl, he] at h
        exact h
    · obtain ⟨h1, h2⟩ := exitOf_spec h hne
      refine ⟨by omega, fun b st k ds r h => ?_⟩
      cases l with
      | nil => simp [exitOf] at *
      | cons x l =>
        unfold afterLoop at h
        rw [if_neg (by simp only; omega)] at h
        exact h2 b st k ds r h
end
end Go.Proofs.Ytkimdfpmblhapaa.Va

/- A piece of code: all forms. -/
set_option linter.unusedVariables false
set_option linter.unusedSimpArgs false
namespace Go.Proofs.Ytkimdfpmblhapaa.Va
open Go.RowKit

section
variable {P : Program} {cfs : FuncId → Nat → FCfg} {fc : FCfg} {env : Env}
/-- What a piece of code comes to. -/
def Ends (P : Program) (X : Nat → Nat → Prop) (w0 : World) (g0 : Gho) (st : St) (a : Act) (k : Ex → St → Option R) (r : R) (Q : Exit → Act → World → Prop) : Prop :=
  ∀ x g' st' a' w', Rel P X w0 g0 g' st' a' w' → Nrm st' → Same st st' → (∀ i, i ∈ st.protS → a'.tmps.getD i undef = a.tmps.getD i undef) → k x st' = some r → Q (toExit x) a' w'
def Goes (P : Program) (cfs : FuncId → Nat → FCfg) (fc : FCfg) (env : Env) (n : Nat) (c : Code) : Prop :=
  ∀ (st : St) (k : Ex → St → Option R) (r : R) (X : Nat → Nat → Prop) (w0 : World) (g0 g : Gho) (a : Act) (w : World) (Q : Exit → Act → World → Prop),
    exec P cfs fc env n c st k = some r → Rel P X w0 g0 g st a w → Nrm st → Ends P X w0 g0 st a k r Q → c.wp P Q a w
theorem bind_some {α β : Type} {x : Option α} {k : α → Option β} {r : β} (h : x.bind k = some r) : ∃ y, x = some y ∧ k y = some r := by
  cases x with
  | none => cases h
  | some y => exact ⟨y, rfl, h⟩
theorem loop_sound (n0 : Nat) {c : Code} (hc : Goes P cfs fc env n0 c) {X : Nat → Nat → Prop} {w0 : World} {g0 g : Gho} {st b : St} {a : Act} {w : World} (lc : LoopCfg) (I : Into P X w0 g0 st b a w g)
    {r r0 : R} {k : Ex → St → Option R} (hk : afterLoop P st b k lc.exits 1 r0 = some r) {Q : Exit → Act → World → Prop} (hQ : Ends P X w0 g0 st a k r Q) : ∀ (n : Nat) (ds : List D) (g' : Gho) (a' : Act) (w' : World),
    loopRun P lc b (fun st' k' => exec P cfs fc env n0 c st' k') n ds = some r0 → Rel P X w g g' (lc.head.un P b ds) a' w' → Nrm (lc.head.un P b ds) → (∀ i, i ∈ b.protS → a'.tmps.getD i undef = a.tmps.getD i undef) → Code.rounds P c Q n a' w'
  | 0, ds, g', a', w', h, hr, hn, hS => by cases h
  | n + 1, ds, g', a', w', h, hr, hn, hS => by
    show c.wp P (Exit.then (Code.rounds P c Q n) Q) a' w'
    unfold loopRun at h
    refine hc _ _ r0 X w g g' a' w' _ h hr hn fun x g2 st2 a2 w2 hr2 hn2 hs2 hS2 hx => ?_
    have hsu := un_same P lc.head b ds
    obtain ⟨ms, K⟩ := I.kept
    have hs0 : Same (inside st b) st2 := Same.trans (Same.trans (b := b) ⟨K.nb, K.tb, K.lfr, K.lhp, K.ltk, rfl, rfl, rfl, rfl⟩ hsu) hs2
    have hS0 : ∀ i, i ∈ b.protS → a2.tmps.getD i undef = a.tmps.getD i undef := fun i hi => (hS2 i (by rw [hsu.protS]; exact hi)).trans (hS i hi)
    have hT : ∀ (f : Ifc), ∀ x ∈ f.toks, ∀ m, apMark (apAt st2 x.1 x.2.1) = some m → m ∉ st2.protT → m ∉ b.protT := fun f x hx m hm h => by rw [show b.protT = st2.protT from hs0.protT.symm]; exact h
    cases x with
    | normal =>
      simp only at hx
      split at hx
      · rename_i ds' hp
        obtain ⟨⟨g3, hr3⟩, hn3, hs3⟩ := I.repack hr2 hs0 hS0 (pack_ok hp (hT lc.head))
        exact loop_sound n0 hc lc I hk hQ n ds' g3 a2 w2 hx hr3 hn3 hS0
      · cases hx
    | exit id =>
      simp only at hx
      split at hx
      · rename_i i f he
        split at hx
        · rename_i ds' hp
          cases hx
          obtain ⟨⟨g3, hr3⟩, hn3, hs3⟩ := I.repack hr2 hs0 hS0 (pack_ok hp (hT f))
          obtain ⟨h1, h2, h3, h4⟩ := I.out hr3 hn3 hs3 hS0
          exact hQ (.exit id) g3 _ a2 w2 h1 h2 h3 h4 ((exitOf_spec he (by simp)).2 b st k ds' r hk)
        · cases hx
      · cases hx
    | ret =>
      simp only at hx
      split at hx
      · rename_i i f he
        split at hx
        · rename_i ds' hp
          cases hx
          obtain ⟨⟨g3, hr3⟩, hn3, hs3⟩ := I.repack hr2 hs0 hS0 (pack_ok hp (hT f))
          obtain ⟨h1, h2, h3, h4⟩ := I.out hr3 hn3 hs3 hS0
          exact hQ .ret g3 _ a2 w2 h1 h2 h3 h4 ((exitOf_spec he (by simp)).2 b st k ds' r hk)
        · cases hx
      · cases hx
theorem exec_sound (henv : CallOk P cfs env) (hm : P.follows .mixedOrders = true) (n : Nat) : ∀ (c : Code), Goes P cfs fc env n c
  | .skip => fun st k r X w0 g0 g a w Q h hr hn hQ => wp_skip (hQ .normal g st a w hr hn (.refl _) (fun _ _ => rfl) h)
  | .ret => fun st k r X w0 g0 g a w Q h hr hn hQ => wp_ret (hQ .ret g st a w hr hn (.refl _) (fun _ _ => rfl) h)
  | .exit id => fun st k r X w0 g0 g a w Q h hr hn hQ => wp_exit (hQ (.exit id) g st a w hr hn (.refl _) (fun _ _ => rfl) h)
  | .seq x y => fun st k r X w0 g0 g a w Q h hr hn hQ => by
    unfold exec at h
    refine wp_seq (exec_sound henv hm n x st _ r X w0 g0 g a w _ h hr hn fun e g' st' a' w' hr' hn' hs' hS' hx => ?_)
    cases e with
    | normal => exact exec_sound henv hm n y st' k r X w0 g0 g' a' w' Q hx hr' hn' fun e2 g2 st2 a2 w2 hr2 hn2 hs2 hS2 hx2 => hQ e2 g2 st2 a2 w2 hr2 hn2 (hs'.trans hs2) (fun i hi => (hS2 i (hs'.protS ▸ hi)).trans (hS' i hi)) hx2
    | exit id => exact hQ (.exit id) g' st' a' w' hr' hn' hs' hS' hx
    | ret => exact hQ .ret g' st' a' w' hr' hn' hs' hS' hx
  | .block id x => fun st k r X w0 g0 g a w Q h hr hn hQ => by
    unfold exec at h
    refine wp_block (exec_sound henv hm n x st _ r X w0 g0 g a w _ h hr hn fun e g' st' a' w' hr' hn' hs' hS' hx => ?_)
    cases e with
    | normal => exact hQ .normal g' st' a' w' hr' hn' hs' hS' hx
    | ret => exact hQ .ret g' st' a' w' hr' hn' hs' hS' hx
    | exit j =>
      simp only at hx
      show if j = id then Q .normal a' w' else Q (.exit j) a' w'
      by_cases hj : j = id
      · rw [if_pos hj]
        rw [if_pos (by simpa using hj)] at hx
        exact hQ .normal g' st' a' w' hr' hn' hs' hS' hx
      · rw [if_neg hj]
        rw [if_neg (by simpa using hj)] at hx
        exact hQ (.exit j) g' st' a' w' hr' hn' hs' hS' hx
  | .region id ops draw => fun st k r X w0 g0 g a w Q h hr hn hQ => by
    unfold exec at h
    split at h
    · rw [stepsD_bind hn] at h
      obtain ⟨st', h1, h2⟩ := bind_some h
      exact region_sound henv hm hn h1 hr fun g' a' w' hr' hS' => hQ .normal g' st' a' w' hr' (stepsDO_nrm h1 hn) (stepsDO_same h1) hS' h2
    · rename_i f _
      simp only at h
      obtain ⟨r0, h1, h2⟩ := bind_some h
      have I := into_base (P := P) (notIn (dstsO ops.toList)) (notIn f.objs) f.objs f.toks hr hn
      generalize hb : base st (notIn (dstsO ops.toList)) (notIn f.objs) f.objs f.toks = b at *
      have hr1 := snap (ms := I.kept.choose) I.rel I.kept.choose_spec I.live
      have hn1 : Nrm (inside st b) := hn.of_fr rfl
      rw [show ({ nb := st.nb, tb := st.tb, fr := st.fr, hp := st.hp, tk := st.tk, prot := b.prot, protM := b.protM, protS := b.protS, protT := b.protT } : St) = inside st b from rfl, stepsD_bind hn1] at h1
      obtain ⟨st2, h3, h4⟩ := bind_some h1
      split at h4
      · rename_i ds hp
        cases h4
        refine region_sound henv hm hn1 h3 hr1 fun g2 a2 w2 hr2 hS2 => ?_
        have hs2 := stepsDO_same h3
        obtain ⟨⟨g3, hr3⟩, hn3, hs3⟩ := I.repack hr2 hs2 hS2 (pack_ok hp (fun x hx m hm h => by rw [show b.protT = st2.protT from hs2.protT.symm]; exact h))
        obtain ⟨h5, h6, h7, h8⟩ := I.out hr3 hn3 hs3 hS2
        exact hQ .normal g3 _ a2 w2 h5 h6 h7 h8 h2
      · cases h4
  | .cond c x y => fun st k r X w0 g0 g a w Q h hr hn hQ => by
    unfold exec at h
    split at h
    · rename_i d hc
      have hv := hr.ev c
      rw [hc] at hv
      have hv := rv_bool hv
      split at h
      · cases hd : d.toBool with
        | true =>
          rw [hd] at h hv
          exact wp_cond hv (exec_sound henv hm n x st k r X w0 g0 g a w Q h hr hn hQ)
        | false =>
          rw [hd] at h hv
          exact wp_cond hv (exec_sound henv hm n y st k r X w0 g0 g a w Q h hr hn hQ)
      · rename_i f _
        simp only at h
        obtain ⟨r0, h1, h2⟩ := bind_some h
        have I := into_base (P := P) (notIn (dsts x ++ dsts y)) (notIn f.objs) f.objs f.toks hr hn
        generalize hb : base st (notIn (dsts x ++ dsts y)) (notIn f.objs) f.objs f.toks = b at *
        have hr1 := snap (ms := I.kept.choose) I.rel I.kept.choose_spec I.live
        have hn1 : Nrm (inside st b) := hn.of_fr rfl
        have hE : Ends P X w g (inside st b) a (fun e st' => match e with | .normal => (match f.pack P b st' with | some ds => some (0, ds) | none => none) | _ => none) r0 Q := fun e g2 st2 a2 w2 hr2 hn2 hs2 hS2 hx => by
          cases e with
          | normal =>
            simp only at hx
            split at hx
            · rename_i ds hp
              cases hx
              obtain ⟨⟨g3, hr3⟩, hn3, hs3⟩ := I.repack hr2 hs2 hS2 (pack_ok hp (fun x hx m hm h => by rw [show b.protT = st2.protT from hs2.protT.symm]; exact h))
              obtain ⟨h5, h6, h7, h8⟩ := I.out hr3 hn3 hs3 hS2
              exact hQ .normal g3 _ a2 w2 h5 h6 h7 h8 h2
            · cases hx
          | exit id => cases hx
          | ret => cases hx
        cases hd : d.toBool with
        | true =>
          rw [hd] at h1 hv
          exact wp_cond hv (exec_sound henv hm n x (inside st b) _ r0 X w g g a w Q h1 hr1 hn1 hE)
        | false =>
          rw [hd] at h1 hv
          exact wp_cond hv (exec_sound henv hm n y (inside st b) _ r0 X w g g a w Q h1 hr1 hn1 hE)
    · cases h
  | .loop c => fun st k r X w0 g0 g a w Q h hr hn hQ => by
    unfold exec at h
    split at h
    · cases h
    · rename_i lc _
      simp only at h
      split at h
      · rename_i ds hp
        obtain ⟨r0, h1, h2⟩ := bind_some h
        have I := into_base (P := P) (isIn lc.keep) (isIn lc.keepO) lc.head.objs lc.head.toks hr hn
        have hpk := pack_ok hp (fun x hx m hm h => base_entry x hx m hm h)
        generalize hb : base st (isIn lc.keep) (isIn lc.keepO) lc.head.objs lc.head.toks = b at *
        have hr1 := snap (ms := I.kept.choose) I.rel I.kept.choose_spec I.live
        obtain ⟨⟨g3, hr3⟩, hn3, hs3⟩ := I.repack hr1 (.refl _) (fun _ _ => rfl) (pack_inside hpk)
        exact wp_loop_rounds n (loop_sound n (exec_sound henv hm n c) lc I h2 hQ n ds g3 a w h1 hr3 hn3 (fun _ _ => rfl))
      · cases h
  | .scope _ => fun st k r X w0 g0 g a w Q h hr hn hQ => by unfold exec at h; cases h
  | .label _ => fun st k r X w0 g0 g a w Q h hr hn hQ => by unfold exec at h; cases h
  | .rangeFunc _ _ _ _ => fun st k r X w0 g0 g a w Q h hr hn hQ => by unfold exec at h; cases h
  | .refuse _ => fun st k r X w0 g0 g a w Q h hr hn hQ => by unfold exec at h; cases h
  | .goto _ => fun st k r X w0 g0 g a w Q h hr hn hQ => by unfold exec at h; cases h
end
end Go.Proofs.Ytkimdfpmblhapaa.Va

/- A function's run, from its beginning to its end. -/
set_option linter.unusedVariables false
set_option linter.unusedSimpArgs false
namespace Go.Proofs.Ytkimdfpmblhapaa.Va
open Go.RowKit

theorem mem_upto : ∀ {n p : Nat}, p ∈ upto n ↔ p < n
  | 0, p => by simp [upto]
  | n + 1, p => by
    unfold upto
    rw [List.mem_append, mem_upto]
    simp
    omega
theorem length_repA {α : Type} (a : α) : ∀ n, (repA a n).length = n
  | 0 => rfl
  | n + 1 => by simp [repA, length_repA a n]
theorem getD_repA {α : Type} (a : α) : ∀ n i, (repA a n).getD i a = a
  | 0, i => getD_nil _ _
  | n + 1, 0 => rfl
  | n + 1, i + 1 => by unfold repA; rw [getD_cons_succ]; exact getD_repA a n i
theorem length_finHp (ro ms : List Nat) : ∀ (l : List Ob) (p : Nat), (finHp ro ms p l).length = l.length
  | [], p => rfl
  | o :: r, p => by simp [finHp, length_finHp ro ms r]
theorem finHp_getD (ro ms : List Nat) : ∀ (l : List Ob) (p n : Nat), (finHp ro ms p l).getD n none = match l[n]? with | some o => if ro.contains (p + n) then some o else (dropOb ms (some o)).map blank | none => none
  | [], p, n => by simp [finHp]
  | o :: r, p, 0 => by simp [finHp]
  | o :: r, p, n + 1 => by
    unfold finHp
    rw [getD_cons_succ, finHp_getD ro ms r (p + 1) n, show p + 1 + n = p + (n + 1) by omega]
    simp
section
variable {P : Program} {cfs : FuncId → Nat → FCfg} {fc : FCfg} {env : Env} {X : Nat → Nat → Prop} {w0 : World} {g0 g g' : Gho} {st st' b u : St} {a a' : Act} {w w' : World}
def oneRes (P : Program) (tmps : Array Value) : ResultVar → Sem Value
  | .tmp t => pure (tmps.getD t undef)
  | .cell a t => do loadVar t (← asAddr (tmps.getD a undef))
theorem resAt_run (hr : Rel P X w0 g0 g st a w) {v : ResultVar} {t : TypeId} {s : Sh} {d : D} {aps : List Ap} (h : resAt P st t v = .dt s d aps) : ∃ u, (oneRes P a.tmps v).run P w = .ok u w ∧ RV P X g st w (.dt s d aps) u := by
  cases v with
  | tmp i =>
    refine ⟨a.tmps.getD i undef, rfl, ?_⟩
    rw [← h]
    exact cast_rv (hr.slot i)
  | cell i ty =>
    unfold resAt at h
    simp only at h
    split at h
    · rename_i d0 n s' he hs
      have hv := hr.slot i
      rw [he] at hv
      have hp := rv_x hv
      split at h
      · rename_i s0 d1 aps1 hob
        split at h
        · rename_i hf
          obtain ⟨cs, e, h1, h2, h10, h3⟩ := hr.objs n _ hob
          generalize hvv : a.tmps.getD i undef = v at hp
          cases hp with
          | ptr _ _ hn =>
            obtain ⟨u, h4, h5⟩ := load_rv hs h3 hf (b := g.mu n) (o := 0) (fun j v hj => by rw [cell_at h1, Nat.zero_add]; simpa using hj)
            rw [Nat.zero_add] at h4
            refine ⟨u, ?_, by rw [← h]; exact h5⟩
            unfold oneRes
            simp only [Sem.run_bind, hvv, asAddr, Sem.run_pure, Result.andThen_ok, h4]
        · cases h
      · cases h
    · cases h
theorem resList_run (hr : Rel P X w0 g0 g st a w) : ∀ (vs : List ResultVar) (ts : List TypeId), vs.length = ts.length → (∀ i, i < ts.length → ∃ s d aps, (resList P st vs ts).getD i .undef = .dt s d aps) →
    ∃ us : List Value, us.length = vs.length ∧ (vs.mapM (oneRes P a.tmps)).run P w = .ok us w ∧ ∀ i, RV P X g st w ((resList P st vs ts).getD i .undef) (us.getD i undef)
  | [], [], _, _ => ⟨[], rfl, by simp, fun i => by unfold resList; rw [getD_nil]; trivial⟩
  | [], _ :: _, h, _ => by cases h
  | _ :: _, [], h, _ => by cases h
  | v :: vs, t :: ts, h, hd => by
    obtain ⟨s, d, aps, h0⟩ := hd 0 (by simp)
    rw [show (resList P st (v :: vs) (t :: ts)).getD 0 .undef = resAt P st t v from rfl] at h0
    obtain ⟨u, h1, h2⟩ := resAt_run hr h0
    obtain ⟨us, h3, h4, h5⟩ := resList_run hr vs ts (by simpa using h) (fun i hi => hd (i + 1) (by simpa using hi))
    refine ⟨u :: us, by simp [h3], ?_, fun i => ?_⟩
    · rw [List.mapM_cons]
      simp only [Sem.run_bind, h1, Result.andThen_ok, h4, Sem.run_pure]
    · cases i with
      | zero => rw [show (resList P st (v :: vs) (t :: ts)).getD 0 .undef = resAt P st t v from rfl, h0]; exact h2
      | succ i => exact h5 i
theorem length_resList : ∀ (vs : List ResultVar) (ts : List TypeId), vs.length = ts.length → (resList P st vs ts).length = ts.length
  | [], [], _ => rfl
  | [], _ :: _, h => by cases h
  | _ :: _, [], h => by cases h
  | v :: vs, t :: ts, h => by simp [resList, length_resList vs ts (by simpa using h)]
theorem results_run {fn : Func} (hr : Rel P X w0 g0 g st a w) (hl : fn.results.size = fn.resultTypes.size) (hd : ∀ i, i < fn.resultTypes.size → ∃ s d aps, (resList P st fn.results.toList fn.resultTypes.toList).getD i .undef = .dt s d aps) :
    ∃ us : Array Value, us.size = fn.resultTypes.size ∧ (results fn a.tmps).run P w = .ok (if h : us.size = 1 then us[0] else .tuple us) w ∧ ∀ i, RV P X g st w ((resList P st fn.results.toList fn.resultTypes.toList).getD i .undef) (us.getD i undef) := by
  obtain ⟨us, h1, h2, h3⟩ := resList_run hr fn.results.toList fn.resultTypes.toList (by simpa using hl) (fun i hi => hd i (by simpa using hi))
  refine ⟨us.toArray, by simp [h1, hl], ?_, fun i => by have := h3 i; simpa using this⟩
  unfold results
  rw [Array.mapM_eq_mapM_toList]
  have key : ∀ f : ResultVar → Sem Value, (∀ v, f v = oneRes P a.tmps v) → (do
      let vs ← List.toArray <$> fn.results.toList.mapM f
      pure (if h : vs.size = 1 then vs[0] else Value.tuple vs) : Sem Value).run P w = .ok (if h : us.toArray.size = 1 then us.toArray[0] else .tuple us.toArray) w := fun f hf => by
    have : f = oneRes P a.tmps := funext hf
    subst this
    rw [map_eq_pure_bind]
    simp only [Sem.run_bind, h2, Result.andThen_ok, Sem.run_pure]
  exact key _ (fun v => by cases v <;> rfl)
def startR (fc : FCfg) (fn : Func) (as : List AV) (obs : List Ob) : St := { st0 fc as obs fn.ntmps with fr := repA .undef fn.resultTypes.size }
theorem roOk_spec {ro : List Nat} : ∀ {l : List Ob} {p : Nat}, roOk ro p l = true → ∀ n o, l[n]? = some o → p + n ∈ ro → ∀ ms, dropOb ms (some o) = some o
  | [], p, h, n, o, ho, hn, ms => by simp at ho
  | o' :: r, p, h, n, o, ho, hn, ms => by
    unfold roOk at h
    simp only [Bool.and_eq_true, Bool.or_eq_true, Bool.not_eq_true'] at h
    cases n with
    | zero =>
      simp at ho
      subst ho
      have h1 := h.1.resolve_left (by simpa using hn)
      cases o' with
      | map k v d => rfl
      | cells s d aps =>
        simp only at h1
        show some (Ob.cells s d (aps.map (dropAp ms))) = _
        have : aps.map (dropAp ms) = aps := by
          clear h
          induction aps with
          | nil => rfl
          | cons x r ih =>
            simp only [List.all_cons, Bool.and_eq_true] at h1
            rw [List.map_cons, ih h1.2]
            cases x with
            | own m => simp at h1
            | arr m => simp at h1
            | _ => rfl
        rw [this]
    | succ n => exact roOk_spec h.2 n o (by simpa using ho) (by rw [show p + 1 + n = p + (n + 1) by omega]; exact hn) ms
theorem st0_hp (fc : FCfg) (as : List AV) (obs : List Ob) (k n : Nat) : (st0 fc as obs k).hp.getD n none = obs[n]? := by
  show (obs.map some ++ repA none k).getD n none = _
  rw [getD_app, List.length_map]
  split
  · rename_i h
    simp [List.getD_eq_getElem?_getD, h]
  · rename_i h
    rw [getD_repA, List.getElem?_eq_none (by omega)]
theorem fin_kept (fn : Func) (as : List AV) (obs : List Ob) (hro : roOk fc.roIn 0 obs = true) : Kept (startR fc fn as obs) (finB fc fn obs) (upto (fc.ins.length + fc.argArr.length)) := by
  have hh : ∀ n, (finB fc fn obs).hp.getD n none = match obs[n]? with | some o => if fc.roIn.contains n then some o else (dropOb (upto (fc.ins.length + fc.argArr.length)) (some o)).map blank | none => none := fun n => by
    show (finHp fc.roIn _ 0 obs ++ repA none fn.ntmps).getD n none = _
    rw [getD_app, length_finHp]
    split
    · rw [finHp_getD, Nat.zero_add]
    · rename_i h
      rw [getD_repA, List.getElem?_eq_none (by omega)]
  refine ⟨fun i => .inl (getD_repA _ _ _), fun n o ho => ?_, fun m => ?_, rfl, rfl, rfl, ?_, ?_, fun _ h => h, fun _ h => h, fun _ h => h, fun _ h => h⟩
  · rw [hh] at ho
    cases h0 : obs[n]? with
    | none => rw [h0] at ho; cases ho
    | some o0 =>
      rw [h0] at ho
      have hlt : n < obs.length := (List.getElem?_eq_some_iff.1 h0).1
      have hst : (startR fc fn as obs).hp.getD n none = some o0 := (st0_hp fc as obs fn.ntmps n).trans h0
      simp only at ho
      refine ⟨mem_upto.2 hlt, ?_⟩
      by_cases hr : fc.roIn.contains n = true
      · rw [if_pos hr] at ho
        cases ho
        have hr' : n ∈ fc.roIn := by simpa using hr
        exact ⟨_, _, hst, roOk_spec hro n _ h0 (by rw [Nat.zero_add]; exact hr') _, .inl ⟨hr', rfl⟩⟩
      · rw [if_neg hr] at ho
        cases h1 : dropOb (upto (fc.ins.length + fc.argArr.length)) (some o0) with
        | none => rw [h1] at ho; cases ho
        | some o1 =>
          rw [h1] at ho
          cases ho
          exact ⟨o0, o1, hst, h1, .inr ⟨show n ∉ fc.roIn by simpa using hr, rfl⟩⟩
  · refine .inr ⟨?_, ?_⟩
    · show (repA none _ ++ repA none _).getD m none = none
      rw [getD_app]
      split <;> exact getD_repA _ _ _
    · show (repA (some true) _ ++ repA none _).getD m none = none ∨ _
      rw [getD_app, length_repA]
      split
      · rename_i h; exact .inr (mem_upto.2 h)
      · exact .inl (getD_repA _ _ _)
  · show (finHp _ _ 0 obs ++ repA none fn.ntmps).length = (obs.map some ++ repA none fn.ntmps).length
    simp [length_finHp, length_repA]
  · show (repA none _ ++ repA none _).length = (repA (some true) _ ++ repA none _).length
    simp [length_repA]
theorem st0_nrm (fc : FCfg) (as : List AV) (obs : List Ob) (k : Nat) : Nrm (st0 fc as obs k) := fun i => by
  show norm ((as.map norm ++ repA AV.undef _).getD i AV.undef) = (as.map norm ++ repA AV.undef _).getD i AV.undef
  rw [getD_app]
  split
  · rw [getD_map _ _ _ _ rfl]; exact norm_norm _
  · rw [getD_repA]; rfl
theorem finSlots_at : ∀ (ts : List TypeId) (k i : Nat) (t : TypeId), ts[i]? = some t → (finSlots k ts)[i]? = some (k + i, t)
  | [], k, i, t, h => by simp at h
  | t0 :: r, k, 0, t, h => by simp at h; subst h; rfl
  | t0 :: r, k, i + 1, t, h => by
    unfold finSlots
    have := finSlots_at r (k + 1) i t (by simpa using h)
    rw [show k + 1 + i = k + (i + 1) by omega] at this
    simpa using this
/-- What a call comes to. -/
def RunOk (P : Program) (cfs : FuncId → Nat → FCfg) (env : Env) : Prop :=
  ∀ (f : FuncId) (fn : Func) (as : List AV) (obs : List Ob) (r : R), env f as obs = some r → P.funcs[f]? = some fn → fn.body.isSome = true ∧ fn.name ≠ "runtime.NumGoroutine" ∧
    ∀ (X : Nat → Nat → Prop) (w0 : World) (g0 : Gho) (vals : Array Value), Rel P X w0 g0 g0 (st0 (cfs f obs.length) as obs fn.ntmps) { tmps := vals ++ Array.replicate (fn.ntmps - vals.size) undef, defers := [] } w0 →
      Calls P f vals w0 fun e w' => ∃ (us : Array Value) (g' : Gho), e = .returned (if h : us.size = 1 then us[0] else .tuple us) ∧ us.size = fn.resultTypes.size ∧
        Rel P X w0 g0 g' ((finI (cfs f obs.length) fn obs.length).un P (finB (cfs f obs.length) fn obs) r.2) { tmps := us, defers := [] } w' ∧ ∃ st, PackOk P (finI (cfs f obs.length) fn obs.length) (finB (cfs f obs.length) fn obs) st r.2
theorem run_ok (hm : P.follows .mixedOrders = true) (n : Nat) (henv : CallOk P cfs (run P cfs n)) : RunOk P cfs (run P cfs (n + 1)) := by
  intro f fn as obs r h hf
  unfold run at h
  rw [hf] at h
  simp only at h
  split at h
  · rename_i c hb
    split at h
    · rename_i hc
      simp only [Bool.and_eq_true, decide_eq_true_eq] at hc
      refine ⟨by rw [hb]; rfl, hc.2, fun X w0 g0 vals hr => ?_⟩
      refine calls_of_wp hf hb (exec_sound henv hm n c _ _ r X w0 g0 g0 _ w0 _ h hr (st0_nrm _ _ _ _) fun x g' st' a' w' hr' hn' hs' _ hx => ?_)
      have main : x ≠ .exit 0 → (∀ i, x ≠ .exit i) → a'.defers = [] ∧ ∃ v, (results fn a'.tmps).run P w' = .ok v w' ∧ ∃ (us : Array Value) (g' : Gho), Ending.returned v = .returned (if h : us.size = 1 then us[0] else .tuple us) ∧ us.size = fn.resultTypes.size ∧
          Rel P X w0 g0 g' ((finI (cfs f obs.length) fn obs.length).un P (finB (cfs f obs.length) fn obs) r.2) { tmps := us, defers := [] } w' ∧ ∃ st, PackOk P (finI (cfs f obs.length) fn obs.length) (finB (cfs f obs.length) fn obs) st r.2 := fun _ hne => by
        have hx' : (if decide (fn.results.size = fn.resultTypes.size) = true then match (finI (cfs f obs.length) fn obs.length).pack P (finB (cfs f obs.length) fn obs) { st' with fr := resList P st' fn.results.toList fn.resultTypes.toList } with
            | some ds => some (0, ds)
            | none => none
            else none) = some r := by
          cases x with
          | exit i => exact absurd rfl (hne i)
          | normal => exact hx
          | ret => exact hx
        split at hx'
        · rename_i hl
          simp only [decide_eq_true_eq] at hl
          split at hx'
          · rename_i ds hp
            cases hx'
            have hpk := pack_ok hp (fun x hx m hm h => by simp [finB])
            obtain ⟨us, h1, h2, h3⟩ := results_run hr' hl (fun i hi => by
              obtain ⟨s, d, aps, h4, _⟩ := hpk.slot i i fn.resultTypes.toList[i] (by
                have := finSlots_at fn.resultTypes.toList 0 i fn.resultTypes.toList[i] (by simp [hi])
                rwa [Nat.zero_add] at this)
              exact ⟨s, d, aps, h4⟩)
            refine ⟨hr'.dfr, _, h2, us, ?_⟩
            have hlr := length_resList (P := P) (st := st') fn.results.toList fn.resultTypes.toList (by simpa using hl)
            have hrR : Rel P X w0 g0 g' { st' with fr := resList P st' fn.results.toList fn.resultTypes.toList } { tmps := us, defers := [] } w' :=
              hr'.same rfl rfl rfl rfl rfl rfl rfl (by simp [h1, hlr]) h3
            have hrS : Rel P X w0 g0 g0 (startR (cfs f obs.length) fn as obs) { tmps := Array.replicate fn.resultTypes.size undef, defers := [] } w0 :=
              hr.same rfl rfl rfl rfl rfl rfl rfl (by simp [startR, length_repA]) (fun i => by unfold startR; rw [getD_repA]; trivial)
            have I : Into P X w0 g0 (startR (cfs f obs.length) fn as obs) (finB (cfs f obs.length) fn obs) { tmps := Array.replicate fn.resultTypes.size undef, defers := [] } w0 g0 :=
              ⟨hrS, fun i => by unfold startR; rw [getD_repA]; rfl, ⟨_, fin_kept fn as obs hc.1⟩, fun m hm => by simp [finB] at hm⟩
            have hsm : Same (inside (startR (cfs f obs.length) fn as obs) (finB (cfs f obs.length) fn obs)) { st' with fr := resList P st' fn.results.toList fn.resultTypes.toList } :=
              ⟨hs'.nb, hs'.tb, by simp [inside, startR, hlr, length_repA], hs'.hp, hs'.tk, hs'.prot, hs'.protM, hs'.protS, hs'.protT⟩
            obtain ⟨⟨g3, hr3⟩, _, _⟩ := I.repack hrR hsm (fun i hi => by simp [finB] at hi) hpk
            exact ⟨g3, rfl, h1, hr3, _, hpk⟩
          · cases hx'
        · cases hx'
      cases x with
      | exit i => cases hx
      | normal => exact main (by simp) (by simp)
      | ret => exact main (by simp) (by simp)
    · cases h
  · cases h
end
end Go.Proofs.Ytkimdfpmblhapaa.Va

/- Calls: names and marks, as the callee sees them. -/
set_option linter.unusedVariables false
set_option linter.unusedSimpArgs false
namespace Go.Proofs.Ytkimdfpmblhapaa.Va
open Go.RowKit

theorem posOf_get : ∀ {l : List Nat} {n : Nat}, n ∈ l → l[posOf l n]? = some n
  | a :: r, n, h => by
    unfold posOf
    split
    · rename_i he; simp [he]
    · rename_i he
      rcases List.mem_cons.1 h with h | h
      · exact absurd h.symm he
      · simpa using posOf_get h
theorem posOf_nodup : ∀ {l : List Nat} {n p : Nat}, nodup l = true → l[p]? = some n → posOf l n = p
  | a :: r, n, 0, hn, h => by simp at h; unfold posOf; rw [if_pos h]
  | a :: r, n, p + 1, hn, h => by
    obtain ⟨h1, h2⟩ := nodup_cons hn
    simp at h
    unfold posOf
    rw [if_neg (by rintro rfl; exact h1 (List.mem_of_getElem? h)), posOf_nodup h2 h]
theorem rn_at (l : List Nat) : ∀ (a : List XV) (i : Nat), (XV.ren.rn l a)[i]? = (a[i]?).map (XV.ren l)
  | [], i => by simp [XV.ren.rn]
  | v :: r, 0 => by simp [XV.ren.rn]
  | v :: r, i + 1 => by unfold XV.ren.rn; simpa using rn_at l r i
theorem rn_length (l : List Nat) : ∀ (a : List XV), (XV.ren.rn l a).length = a.length
  | [] => rfl
  | v :: r => by unfold XV.ren.rn; simp [rn_length l r]
def idxM (m : Nat) : Nat → List (Option Nat) → Option Nat
  | _, [] => none
  | k, x :: r => if x = some m then some k else idxM m (k + 1) r
theorem idxM_some {m : Nat} : ∀ {M : List (Option Nat)} {k q : Nat}, idxM m k M = some q → ∃ i, q = k + i ∧ M[i]? = some (some m)
  | [], k, q, h => by cases h
  | x :: r, k, q, h => by
    unfold idxM at h
    split at h
    · rename_i hx; cases h; exact ⟨0, rfl, by simp [hx]⟩
    · obtain ⟨i, h1, h2⟩ := idxM_some h
      exact ⟨i + 1, by omega, by simpa using h2⟩
theorem idxM_of {m : Nat} : ∀ {M : List (Option Nat)} {k i : Nat}, M[i]? = some (some m) → (∀ j, j < i → M[j]? ≠ some (some m)) → idxM m k M = some (k + i)
  | x :: r, k, 0, h, _ => by simp at h; unfold idxM; rw [if_pos h]; rfl
  | x :: r, k, i + 1, h, hj => by
    unfold idxM
    rw [if_neg (by rintro rfl; exact hj 0 (by omega) rfl), idxM_of (by simpa using h) (fun j hlt => by have := hj (j + 1) (by omega); simpa using this)]
    congr 1
    omega
def ownC (l : List Nat) (M : List (Option Nat)) : Gh → Gh
  | .dat => .dat
  | .ob n => if n ∈ l then .ob (posOf l n) else .dat
  | .tl m s => match idxM m 0 M with | some q => .tl q s | none => .dat
  | .rw m => match idxM m 0 M with | some q => .rw q | none => .dat
section
variable {P : Program} {cfs : FuncId → Nat → FCfg} {fc : FCfg} {env : Env} {X : Nat → Nat → Prop} {w0 : World} {g0 g g' gc : Gho} {st st' b u : St} {a a' : Act} {w w' : World} {l : List Nat}
theorem rx_ren {ok ok' : Nat → Bool} {x : XV} {v : Value} (h : RX g ok x v) (hok : ∀ p, p < l.length → ok' p = true) (hmu : ∀ p, gc.mu p = g.mu (l.getD p 0)) : (∀ n ∈ x.names, n ∈ l) → RX gc ok' (x.ren l) v := by
  have hm : ∀ n, n ∈ l → gc.mu (posOf l n) = g.mu n ∧ ok' (posOf l n) = true := fun n hn => by
    have := posOf_get hn
    exact ⟨by rw [hmu, getD_of this], hok _ (List.getElem?_eq_some_iff.1 this).1⟩
  induction h with
  | nilp => exact fun _ => .nilp
  | nilm => exact fun _ => .nilm
  | nilf => exact fun _ => .nilf
  | ptr n off hn =>
    intro h
    obtain ⟨h1, h2⟩ := hm n (h n (by simp [XV.names]))
    rw [← h1]
    exact .ptr _ off h2
  | mp n hn =>
    intro h
    obtain ⟨h1, h2⟩ := hm n (h n (by simp [XV.names]))
    rw [← h1]
    exact .mp _ h2
  | fn f a b va vb ha hb _ _ i1 i2 =>
    intro h
    refine .fn f _ _ va vb (by rw [rn_length]; exact ha) (by rw [rn_length]; exact hb) (fun i x v h1 h2 => ?_) (fun i x v h1 h2 => ?_)
    · rw [rn_at, Option.map_eq_some_iff] at h1
      obtain ⟨y, h3, rfl⟩ := h1
      exact i1 i y v h3 h2 fun n hn => h n (by unfold XV.names; exact List.mem_append_left _ (mem_nm hn (List.mem_of_getElem? h3)))
    · rw [rn_at, Option.map_eq_some_iff] at h1
      obtain ⟨y, h3, rfl⟩ := h1
      exact i2 i y v h3 h2 fun n hn => h n (by unfold XV.names; exact List.mem_append_right _ (mem_nm hn (List.mem_of_getElem? h3)))
theorem ownC_at {M : List (Option Nat)} {h : Gh} {o : Nat} (hh : (ownC l M h).at o) : h.at o := by
  cases h with
  | dat => exact hh
  | ob n => trivial
  | rw m => trivial
  | tl m s =>
    unfold ownC at hh
    simp only at hh
    split at hh
    · exact hh
    · exact hh.elim
theorem ownC_at' {M : List (Option Nat)} {h : Gh} {o : Nat} (hh : h.at o) (hd : ownC l M h ≠ .dat) : (ownC l M h).at o := by
  cases h with
  | dat => exact hh
  | ob n =>
    unfold ownC at hd ⊢
    simp only at hd ⊢
    split at hd
    · rename_i h; rw [if_pos h]; trivial
    · exact absurd rfl hd
  | rw m =>
    unfold ownC at hd ⊢
    simp only at hd ⊢
    cases h : idxM m 0 M with
    | none => rw [h] at hd; exact absurd rfl hd
    | some q => trivial
  | tl m s =>
    unfold ownC at hd ⊢
    simp only at hd ⊢
    cases h : idxM m 0 M with
    | none => rw [h] at hd; exact absurd rfl hd
    | some q => exact hh
theorem ownC_tk {M : List (Option Nat)} {h : Gh} {q : Nat} (hh : (ownC l M h).isTk q) : ∃ m, M[q]? = some (some m) ∧ ((∃ s, h = .tl m s ∧ ownC l M h = .tl q s) ∨ (h = .rw m ∧ ownC l M h = .rw q)) := by
  cases h with
  | dat => rcases hh with ⟨_, hh⟩ | hh <;> cases hh
  | ob n =>
    unfold ownC at hh
    simp only at hh
    split at hh <;> rcases hh with ⟨_, hh⟩ | hh <;> cases hh
  | rw m =>
    cases h : idxM m 0 M with
    | none =>
      have he : ownC l M (.rw m) = .dat := by unfold ownC; simp only [h]
      rw [he] at hh
      rcases hh with ⟨_, hh⟩ | hh <;> cases hh
    | some q' =>
      have he : ownC l M (.rw m) = .rw q' := by unfold ownC; simp only [h]
      rw [he] at hh ⊢
      obtain ⟨i, h1, h2⟩ := idxM_some h
      rcases hh with ⟨_, hh⟩ | hh
      · cases hh
      · cases hh
        rw [Nat.zero_add] at h1
        subst h1
        exact ⟨m, h2, .inr ⟨rfl, rfl⟩⟩
  | tl m s =>
    cases h : idxM m 0 M with
    | none =>
      have he : ownC l M (.tl m s) = .dat := by unfold ownC; simp only [h]
      rw [he] at hh
      rcases hh with ⟨_, hh⟩ | hh <;> cases hh
    | some q' =>
      have he : ownC l M (.tl m s) = .tl q' s := by unfold ownC; simp only [h]
      rw [he] at hh ⊢
      obtain ⟨i, h1, h2⟩ := idxM_some h
      rcases hh with ⟨_, hh⟩ | hh
      · cases hh
        rw [Nat.zero_add] at h1
        subst h1
        exact ⟨m, h2, .inl ⟨s, rfl, rfl⟩⟩
      · cases hh
end
end Go.Proofs.Ytkimdfpmblhapaa.Va

/- Calls: what the callee begins with. -/
set_option linter.unusedVariables false
set_option linter.unusedSimpArgs false
namespace Go.Proofs.Ytkimdfpmblhapaa.Va
open Go.RowKit

theorem insT_length (l : List Nat) : ∀ ins : List (Nat × Nat × Bool), (insT l ins).length = ins.length
  | [] => rfl
  | (p, j, b) :: r => by simp [insT, insT_length l r]
theorem insT_at (l : List Nat) : ∀ (ins : List (Nat × Nat × Bool)) (q : Nat), (insT l ins)[q]? = (ins[q]?).map fun x => (l.getD x.1 0, some x.2.1, x.2.2, 0)
  | [], q => by simp [insT]
  | (p, j, b) :: r, 0 => by simp [insT]
  | (p, j, b) :: r, q + 1 => by unfold insT; simpa using insT_at l r q
theorem insAt_some : ∀ {ins : List (Nat × Nat × Bool)} {k p j q : Nat} {b : Bool}, renAps.insAt ins k p j = some (q, b) → ∃ i, q = k + i ∧ ins[i]? = some (p, j, b)
  | [], k, p, j, q, b, h => by cases h
  | (p', j', b') :: r, k, p, j, q, b, h => by
    unfold renAps.insAt at h
    split at h
    · rename_i hp; cases h; exact ⟨0, rfl, by simp [hp.1, hp.2]⟩
    · obtain ⟨i, h1, h2⟩ := insAt_some h
      exact ⟨i + 1, by omega, by simpa using h2⟩
def renAp (l : List Nat) (ins : List (Nat × Nat × Bool)) (p j : Nat) (a : Ap) : Ap := match a with
  | .x v => .x (v.ren l)
  | a => match renAps.insAt ins 0 p j with
    | some (q, true) => .arr q
    | some (q, false) => .own q
    | none => match a with | .dead => .dead | .arr _ => .dead | _ => .ro
theorem renAps_length (l : List Nat) (ins : List (Nat × Nat × Bool)) (p : Nat) : ∀ (aps : List Ap) (k : Nat), (renAps l ins p k aps).length = aps.length
  | [], k => rfl
  | a :: r, k => by simp [renAps, renAps_length l ins p r]
theorem renAps_getD (l : List Nat) (ins : List (Nat × Nat × Bool)) (p : Nat) : ∀ (aps : List Ap) (k j : Nat), j < aps.length → (renAps l ins p k aps).getD j .dead = renAp l ins p (k + j) (aps.getD j .dead)
  | a :: r, k, 0, _ => by unfold renAps renAp; rfl
  | a :: r, k, j + 1, h => by
    unfold renAps
    rw [getD_cons_succ, getD_cons_succ, renAps_getD l ins p r (k + 1) j (by simpa using h), show k + 1 + j = k + (j + 1) by omega]
theorem renObs_spec {hp : List (Option Ob)} {l0 : List Nat} {ins : List (Nat × Nat × Bool)} : ∀ {l : List Nat} {k : Nat} {obs : List Ob}, renObs hp l0 ins k l = some obs → obs.length = l.length ∧ ∀ (p n : Nat), l[p]? = some n → ∃ o, obs[p]? = some o ∧ renOb l0 ins (k + p) (hp.getD n none) = some o
  | [], k, obs, h => by cases h; exact ⟨rfl, fun p n h => by simp at h⟩
  | n :: r, k, obs, h => by
    unfold renObs at h
    split at h
    · rename_i o os h1 h2
      cases h
      obtain ⟨h3, h4⟩ := renObs_spec h2
      refine ⟨by simp [h3], fun p n' hp => ?_⟩
      cases p with
      | zero => simp at hp; subst hp; exact ⟨o, rfl, h1⟩
      | succ p =>
        obtain ⟨o', h5, h6⟩ := h4 p n' (by simpa using hp)
        exact ⟨o', by simpa using h5, by rw [show k + (p + 1) = k + 1 + p by omega]; exact h6⟩
    · cases h
def inM (st : St) (T : List Tok) : List (Option Nat) := T.map fun x => apMark (apAt st x.1 x.2.1)
def gaAp (P : Program) (t : TypeId) (a : AV) : Option Nat := match cast P t a with
  | .dt _ _ [.arr m] => some m
  | _ => none
def gaM (P : Program) (ga : List Nat) : Nat → List TypeId → List AV → List (Option Nat)
  | i, t :: ts, a :: r => (if ga.contains i then [gaAp P t a] else []) ++ gaM P ga (i + 1) ts r
  | _, _, _ => []
theorem inM_marks (st : St) : ∀ T : List Tok, (inM st T).filterMap id = tokMarks st T
  | [] => rfl
  | (i, j, b, m) :: r => by
    unfold tokMarks
    rw [← inM_marks st r]
    unfold inM
    rw [List.map_cons]
    simp only
    cases apAt st i j <;> simp [apMark]
theorem gaM_marks (P : Program) (ga : List Nat) : ∀ (i : Nat) (ts : List TypeId) (as : List AV), (gaM P ga i ts as).filterMap id = gaMarks P ga i ts as
  | i, [], as => by simp [gaM, gaMarks]
  | i, t :: ts, [] => by simp [gaM, gaMarks]
  | i, t :: ts, a :: r => by
    unfold gaM gaMarks
    rw [List.filterMap_append, gaM_marks P ga (i + 1) ts r]
    congr 1
    split
    · unfold gaAp
      split <;> simp_all
    · rfl
theorem nodup_mem {x : Nat} : ∀ {M : List (Option Nat)} {i : Nat}, M[i]? = some (some x) → x ∈ M.filterMap id
  | m :: r, 0, h => by simp at h; subst h; simp
  | m :: r, i + 1, h => by
    have := nodup_mem (M := r) (i := i) (by simpa using h)
    cases m with
    | none => simpa using this
    | some y => simp only [List.filterMap_cons, id]; exact List.mem_cons_of_mem _ this
/-- No mark twice. -/
theorem nodup_inj {x : Nat} : ∀ {M : List (Option Nat)} {i j : Nat}, nodup (M.filterMap id) = true → M[i]? = some (some x) → M[j]? = some (some x) → i = j
  | [], i, j, h, hi, hj => by simp at hi
  | m :: r, i, j, h, hi, hj => by
    have hr : nodup (r.filterMap id) = true ∧ ∀ y, m = some y → y ∉ r.filterMap id := by
      cases m with
      | none => exact ⟨by simpa using h, fun y hy => by cases hy⟩
      | some y =>
        simp only [List.filterMap_cons, id] at h
        obtain ⟨h1, h2⟩ := nodup_cons h
        exact ⟨h2, fun z hz => by cases hz; exact h1⟩
    cases i with
    | zero =>
      cases j with
      | zero => rfl
      | succ j =>
        simp at hi hj
        exact absurd (nodup_mem hj) (hr.2 x hi)
    | succ i =>
      cases j with
      | zero =>
        simp at hi hj
        exact absurd (nodup_mem hi) (hr.2 x hj)
      | succ j => exact congrArg (· + 1) (nodup_inj (M := r) (x := x) hr.1 (by simpa using hi) (by simpa using hj))
theorem idxM_at {m i : Nat} {M : List (Option Nat)} (hd : nodup (M.filterMap id) = true) (h : M[i]? = some (some m)) : idxM m 0 M = some i := by
  have := idxM_of (k := 0) h (fun j hj h2 => by have := nodup_inj hd h h2; omega)
  rwa [Nat.zero_add] at this
theorem gaM_length (P : Program) (ga : List Nat) : ∀ (i : Nat) (ts : List TypeId) (as : List AV), ts.length = as.length → (gaM P ga i ts as).length = gaCount ga i ts
  | i, [], [], _ => rfl
  | i, [], _ :: _, h => by cases h
  | i, _ :: _, [], h => by cases h
  | i, t :: ts, a :: r, h => by
    unfold gaM gaCount
    rw [List.length_append, gaM_length P ga (i + 1) ts r (by simpa using h)]
    split <;> rfl
end Go.Proofs.Ytkimdfpmblhapaa.Va

/- Calls: the callee's beginning. -/
set_option linter.unusedVariables false
set_option linter.unusedSimpArgs false
namespace Go.Proofs.Ytkimdfpmblhapaa.Va
open Go.RowKit

def gaSz (P : Program) (ga : List Nat) : Nat → List TypeId → List Nat
  | _, [] => []
  | i, t :: ts => (if ga.contains i then [match sh P t with | some ⟨_, [.sl e]⟩ => (match shp P e with | some s => s.ks.length | none => 0) | _ => 0] else []) ++ gaSz P ga (i + 1) ts
/-- The marks that a call takes along. -/
def callM (P : Program) (fc : FCfg) (st : St) (l : List Nat) (ts : List TypeId) (all : List AV) : List (Option Nat) := inM st (insT l fc.ins) ++ gaM P fc.argArr 0 ts all
def calleeGho (P : Program) (fc : FCfg) (st : St) (g : Gho) (a : Act) (w : World) (l : List Nat) (ts : List TypeId) (all : List AV) : Gho :=
  { mu := fun p => g.mu (l.getD p 0)
    own := fun b => ownC l (callM P fc st l ts all) (g.own b)
    rho := fun q => match (insT l fc.ins)[q]? with
      | some x => (valAt a g w x.1 x.2.1, sizeAt P st x.1 x.2.1)
      | none => match (callM P fc st l ts all).getD q none with
        | some m => g.rho m
        | none => (.slice none 0 0, (gaSz P fc.argArr 0 ts).getD (q - fc.ins.length) 0) }
def calleeX (P : Program) (fc : FCfg) (st : St) (X : Nat → Nat → Prop) (g : Gho) (l : List Nat) (ts : List TypeId) (all : List AV) (b o : Nat) : Prop :=
  Wr X g b o ∧ ownC l (callM P fc st l ts all) (g.own b) = .dat
section
variable {P : Program} {cfs : FuncId → Nat → FCfg} {fc : FCfg} {env : Env} {X X' : Nat → Nat → Prop} {w0 : World} {g0 g g' gc : Gho} {st st' b u : St} {a a' : Act} {w w' : World} {l : List Nat} {ts : List TypeId} {all : List AV}
theorem calleeW (a : Act) (w : World) (bb o : Nat) : Wr (calleeX P fc st X g l ts all) (calleeGho P fc st g a w l ts all) bb o → Wr X g bb o := fun h => by
  rcases h with h | h
  · exact h.1
  · exact .inr (ownC_at h)
theorem calleeW' (hx : ∀ b o, X b o → g.own b = .dat) (a : Act) (w : World) (bb o : Nat) : Wr X g bb o → Wr (calleeX P fc st X g l ts all) (calleeGho P fc st g a w l ts all) bb o := fun h => by
  by_cases hd : ownC l (callM P fc st l ts all) (g.own bb) = .dat
  · exact .inl ⟨h, hd⟩
  · rcases h with h | h
    · exact absurd (by rw [hx _ _ h]; rfl) hd
    · exact .inr (ownC_at' h hd)
theorem calleeStay (a : Act) (w' : World) : Stay w (Wr X g) w (Wr (calleeX P fc st X g l ts all) (calleeGho P fc st g a w' l ts all)) := fun bb o v hc hw => ⟨hc, fun h => hw (calleeW a w' bb o h)⟩
theorem cast_names (t : TypeId) (x : AV) : ∀ s d aps, cast P t x = .dt s d aps → ∀ n, n ∈ apNames aps → n ∈ avNames x := fun s d aps h n hn => by
  unfold cast at h
  split at h
  · split at h
    · cases h; simp [apNames] at hn
    · cases h
  · cases h; exact hn
  · subst h; exact hn
/-- An argument, as the callee reads it. -/
theorem castArg_rv {ga : List Nat} {i q : Nat} {t : TypeId} {x y : AV} {v : Value} (h : castArg P l ga i q t x = some y) (hv : RV P X g st w x v) (hst : Stay w (Wr X g) w (Wr X' gc)) (hmu : ∀ p, gc.mu p = g.mu (l.getD p 0))
    (hok : ∀ p, p < l.length → u.has p = true) (hn : ∀ n, n ∈ avNames x → n ∈ l)
    (hga : ga.contains i = true → ∀ e s d ap, shp P e = some s → sh P t = some ⟨false, [.sl e]⟩ ∨ sh P t = some ⟨true, [.sl e]⟩ → ∀ vv, RA P X g st w (.sl e) d ap vv → ((∃ m, ap = .arr m ∧ gaAp P t x = some m) ∨ (ap = .nl ∧ gaAp P t x = none)) → RA P X' gc u w (.sl e) d (.arr q) vv) : RV P X' gc u w y v := by
  unfold castArg at h
  split at h
  · rename_i s s' d aps hs hc
    split at h
    · rename_i hcond
      simp only [Bool.and_eq_true, decide_eq_true_eq] at hcond
      obtain ⟨rfl, hlap⟩ := hcond
      have hcv := cast_rv (P := P) (t := t) hv
      rw [hc] at hcv
      split at h
      · rename_i hgi
        have fin : ∀ e ap, s.ks = [.sl e] → aps = [ap] → (shp P e).isSome = true → ((∃ m, ap = .arr m ∧ gaAp P t x = some m) ∨ (ap = .nl ∧ gaAp P t x = none)) → RV P X' gc u w (.dt s d [.arr q]) v := fun e ap hk ha he hm => by
          obtain ⟨ag, ks⟩ := s
          simp only at hk
          subst hk
          subst ha
          obtain ⟨s', hs'⟩ := Option.isSome_iff_exists.1 he
          refine ⟨hcv.1, hcv.2.len, rfl, fun j k hj => ?_⟩
          match j, hj with
          | 0, hj =>
            simp at hj
            subst hj
            exact hga hgi e s' _ ap hs' (by cases ag; exact .inl hs; exact .inr hs) _ (hcv.2.at_ 0 (.sl e) rfl) hm
          | j + 1, hj => simp at hj
        split at h
        · rename_i e m hk
          split at h
          · rename_i he
            cases h
            exact fin e (.arr m) hk rfl he (.inl ⟨m, rfl, by unfold gaAp; rw [hc]⟩)
          · cases h
        · rename_i e hk
          split at h
          · rename_i he
            cases h
            exact fin e .nl hk rfl he (.inr ⟨rfl, by unfold gaAp; rw [hc]⟩)
          · cases h
        · cases h
      · split at h
        · rename_i hpl
          split at h
          · rename_i hda
            cases h
            refine ⟨hcv.1, ?_⟩
            have h9 := hcv.2.ro (fun j hj => List.all_eq_true.1 hda _ (by
              have : j < aps.length := by rw [hlap]; exact hj
              rw [List.getD_eq_getElem?_getD, List.getElem?_eq_getElem this]
              exact List.getElem_mem this))
            refine ⟨h9.len, h9.lap, fun j k hj => ?_⟩
            have h10 := h9.at_ j k hj
            rw [roAps_getD _ _ (List.getElem?_eq_some_iff.1 hj).1] at h10 ⊢
            exact ⟨h10.1, h10.2.mono hst⟩
          · cases h
        · split at h
          · rename_i vx
            cases h
            have hx := rv_x hcv
            exact mk_x (rx_ren hx hok hmu (fun n hnn => hn n (cast_names t x _ _ _ hc n (by simp [apNames]; exact hnn))))
          · cases h
    · cases h
  · cases h
theorem castArgs_rv {ga : List Nat} (hst : Stay w (Wr X g) w (Wr X' gc)) (hmu : ∀ p, gc.mu p = g.mu (l.getD p 0)) (hok : ∀ p, p < l.length → u.has p = true) : ∀ (ts : List TypeId) (all args : List AV) (vs : List Value) (i q : Nat),
    castArgs P l ga i q ts all = some args → vs.length = all.length → (∀ k, RV P X g st w (all.getD k .undef) (vs.getD k undef)) → (∀ n, n ∈ allNames all → n ∈ l) →
    (∀ (r : Nat) (t : TypeId) (x : AV) (e : TypeId) (s : Sh) (d : D) (ap : Ap) (vv : Value), (gaM P ga i ts all)[r]? = some (gaAp P t x) → (gaSz P ga i ts)[r]? = some s.ks.length → shp P e = some s → RA P X g st w (.sl e) d ap vv → ((∃ m, ap = .arr m ∧ gaAp P t x = some m) ∨ (ap = .nl ∧ gaAp P t x = none)) → RA P X' gc u w (.sl e) d (.arr (q + r)) vv) →
    args.length = ts.length ∧ all.length = ts.length ∧ ∀ k, RV P X' gc u w (args.getD k .undef) (vs.getD k undef)
  | [], [], args, vs, i, q, h, hl, hv, hn, hga => by
    unfold castArgs at h
    cases h
    exact ⟨rfl, rfl, fun k => by rw [getD_nil]; trivial⟩
  | [], _ :: _, args, vs, i, q, h, hl, hv, hn, hga => by unfold castArgs at h; cases h
  | _ :: _, [], args, vs, i, q, h, hl, hv, hn, hga => by unfold castArgs at h; cases h
  | t :: ts, x :: r, args, [], i, q, h, hl, hv, hn, hga => by cases hl
  | t :: ts, x :: r, args, v :: vs, i, q, h, hl, hv, hn, hga => by
    unfold castArgs at h
    split at h
    · rename_i y as h1 h2
      cases h
      have h3 := castArgs_rv hst hmu hok ts r as vs (i + 1) (if ga.contains i then q + 1 else q) h2 (by simpa using hl) (fun k => hv (k + 1)) (fun n hnn => hn n (List.mem_append_right _ hnn)) (fun k t' x' e s d ap vv e1 e2 e3 e4 e5 => by
        by_cases hg : ga.contains i = true
        · rw [if_pos hg, show q + 1 + k = q + (k + 1) by omega]
          refine hga (k + 1) t' x' e s d ap vv ?_ ?_ e3 e4 e5
          · unfold gaM; rw [if_pos hg]; simpa using e1
          · unfold gaSz; rw [if_pos hg]; simpa using e2
        · rw [if_neg hg]
          refine hga k t' x' e s d ap vv ?_ ?_ e3 e4 e5
          · unfold gaM; rw [if_neg hg]; simpa using e1
          · unfold gaSz; rw [if_neg hg]; simpa using e2)
      obtain ⟨h4, h5, h6⟩ := h3
      refine ⟨by simp [h4], by simp [h5], fun k => ?_⟩
      cases k with
      | succ k => exact h6 k
      | zero =>
        refine castArg_rv h1 (hv 0) hst hmu hok (fun n hnn => hn n (List.mem_append_left _ hnn)) (fun hg e s d ap e1 e2 vv e3 e4 => ?_)
        have := hga 0 t x e s d ap vv (by unfold gaM; rw [if_pos hg]; rfl) (by
          unfold gaSz
          rw [if_pos hg]
          rcases e2 with e2 | e2 <;> rw [e2] <;> simp [e1]) e1 e3 e4
        rwa [Nat.add_zero] at this
    · cases h
end
end Go.Proofs.Ytkimdfpmblhapaa.Va

/- Calls: the state that the callee begins with. -/
set_option linter.unusedVariables false
set_option linter.unusedSimpArgs false
namespace Go.Proofs.Ytkimdfpmblhapaa.Va
open Go.RowKit

section
variable {P : Program} {cfs : FuncId → Nat → FCfg} {fc : FCfg} {env : Env} {X X' : Nat → Nat → Prop} {w0 : World} {g0 g g' gc : Gho} {st st' b u : St} {a a' : Act} {w w' : World} {l : List Nat} {ts : List TypeId} {all : List AV}
/-- What is checked before a call. -/
structure CallPre (P : Program) (fc : FCfg) (st : St) (l : List Nat) (ts : List TypeId) (all : List AV) : Prop where
  ins : packT P st (insT l fc.ins) = true
  once : nodup ((callM P fc st l ts all).filterMap id) = true
  use : ∀ m, m ∈ gaMarks P fc.argArr 0 ts all → useTk st m = true
  prot : protOk st fc.roIn l 0 = true
  ro : ∀ x ∈ fc.ins, x.1 ∉ fc.roIn ∧ x.1 < l.length
  cnt : fc.argArr.length = gaCount fc.argArr 0 ts
  reach : ∀ n ∈ l, ∀ k ∈ obNames (st.hp.getD n none), k ∈ l
  nd : nodup l = true
theorem st0_tk (fc : FCfg) (as : List AV) (obs : List Ob) (k m : Nat) : (st0 fc as obs k).tk.getD m none = if m < fc.ins.length + fc.argArr.length then some true else none := by
  show (repA (some true) _ ++ repA none _).getD m none = _
  rw [getD_app, length_repA]
  split
  · rename_i h
    have : ∀ n i, i < n → (repA (some true) n).getD i none = some true := by
      intro n
      induction n with
      | zero => intro i hi; omega
      | succ n ih =>
        intro i hi
        cases i with
        | zero => rfl
        | succ i => unfold repA; rw [getD_cons_succ]; exact ih i (by omega)
    exact this _ _ h
  · exact getD_repA _ _ _
theorem callM_length (hp : CallPre P fc st l ts all) (hl : ts.length = all.length) : (callM P fc st l ts all).length = fc.ins.length + fc.argArr.length := by
  unfold callM inM
  rw [List.length_append, List.length_map, insT_length, gaM_length P fc.argArr 0 ts all hl, hp.cnt]
theorem st0_live {as : List AV} {obs : List Ob} {k m : Nat} : liveTk (st0 fc as obs k) m = true ↔ m < fc.ins.length + fc.argArr.length := by
  rw [liveTk_iff, st0_tk]
  split <;> simp_all
/-- An owned cell of the caller's. -/
theorem ins_tok (hr : Rel P X w0 g0 g st a w) (hp : CallPre P fc st l ts all) {q : Nat} {x : Tok} (hx : (insT l fc.ins)[q]? = some x) : TokOk P st st x := by
  obtain ⟨e1, e2⟩ := packT_spec hp.ins x (List.mem_of_getElem? hx)
  have hu : ∀ m, useTk st m = true → liveTk st m = true ∧ m ∉ st.protT := fun m hm => ⟨useTk_live hm, useTk_prot hm⟩
  refine ⟨?_, ?_⟩
  · unfold kOk at e1
    split at e1
    · rename_i e he
      obtain ⟨s, hs⟩ := Option.isSome_iff_exists.1 e1
      exact ⟨e, s, he, hs⟩
    · cases e1
  · revert e2
    cases hap : apAt st x.1 x.2.1 with
    | nl => exact fun _ => .inl rfl
    | full => exact fun h => .inr (.inl ⟨rfl, h⟩)
    | own m => exact fun h => .inr (.inr (.inl ⟨m, rfl, h.1, (hu m h.2).1, (hu m h.2).2⟩))
    | arr m => exact fun h => .inr (.inr (.inr ⟨m, rfl, h.1, (hu m h.2).1, (hu m h.2).2⟩))
    | _ => exact fun h => h.elim
theorem callM_ins {q : Nat} {x : Tok} (hx : (insT l fc.ins)[q]? = some x) : (callM P fc st l ts all)[q]? = some (apMark (apAt st x.1 x.2.1)) := by
  unfold callM inM
  rw [List.getElem?_append_left (by rw [List.length_map]; exact (List.getElem?_eq_some_iff.1 hx).1), List.getElem?_map, hx]
  rfl
/-- An owned cell, as the callee gets it. -/
theorem ins_ra (hr : Rel P X w0 g0 g st a w) (hp : CallPre P fc st l ts all) (hl : ts.length = all.length) {q : Nat} {x : Tok} (hx : (insT l fc.ins)[q]? = some x) {e : TypeId} {d : D} (hk : kAt st x.1 x.2.1 = some e)
    (h : RA P X g st w (.sl e) d (apAt st x.1 x.2.1) (valAt a g w x.1 x.2.1)) {as : List AV} {obs : List Ob} {k : Nat} :
    RA P (calleeX P fc st X g l ts all) (calleeGho P fc st g a w l ts all) (st0 fc as obs k) w (.sl e) d (mkAp x.2.2.1 q) (valAt a g w x.1 x.2.1) := by
  obtain ⟨⟨e', s, h1, h2⟩, h3⟩ := ins_tok hr hp hx
  rw [hk] at h1
  cases h1
  have hst : Stay w (Wr X g) w (Wr (calleeX P fc st X g l ts all) (calleeGho P fc st g a w l ts all)) := calleeStay a w
  have hq : q < fc.ins.length + fc.argArr.length := by
    have := (List.getElem?_eq_some_iff.1 hx).1
    rw [insT_length] at this
    omega
  have hkn : knownTk (st0 fc as obs k) q := by unfold knownTk; rw [st0_tk, if_pos hq]; rfl
  have hM := callM_ins (P := P) (fc := fc) (st := st) (l := l) (ts := ts) (all := all) hx
  have hrho : (calleeGho P fc st g a w l ts all).rho q = (valAt a g w x.1 x.2.1, s.ks.length) := by
    show (match (insT l fc.ins)[q]? with | some x => _ | none => _) = _
    rw [hx]
    simp only
    unfold sizeAt
    rw [hk]
    simp [h2]
  have hno : apMark (apAt st x.1 x.2.1) = none → ∀ kk, ¬ ((calleeGho P fc st g a w l ts all).own kk).isTk q := fun hn kk hkk => by
    obtain ⟨m, h4, _⟩ := ownC_tk hkk
    rw [hM, hn] at h4
    cases h4
  have hof : ∀ m, apMark (apAt st x.1 x.2.1) = some m → (∀ kk, g.own kk = .rw m → (calleeGho P fc st g a w l ts all).own kk = .rw q) ∧ (∀ kk, (calleeGho P fc st g a w l ts all).own kk = .rw q → g.own kk = .rw m) ∧ (∀ kk s', (calleeGho P fc st g a w l ts all).own kk = .tl q s' → g.own kk = .tl m s') := fun m hm => by
    rw [hm] at hM
    have hi := idxM_at hp.once hM
    refine ⟨fun kk hkk => ?_, fun kk hkk => ?_, fun kk s' hkk => ?_⟩
    · show ownC l _ (g.own kk) = _
      rw [hkk]
      unfold ownC
      simp only [hi]
    · obtain ⟨m', h4, ⟨s2, _, h5⟩ | ⟨h5, _⟩⟩ := ownC_tk (l := l) (.inr hkk)
      · have : (calleeGho P fc st g a w l ts all).own kk = .tl q s2 := h5
        rw [hkk] at this
        cases this
      · rw [hM] at h4
        cases h4
        exact h5
    · obtain ⟨m', h4, ⟨s2, h5, h6⟩ | ⟨_, h6⟩⟩ := ownC_tk (l := l) (.inl ⟨s', hkk⟩)
      · have : (calleeGho P fc st g a w l ts all).own kk = .tl q s2 := h6
        rw [hkk] at this
        cases this
        rw [hM] at h4
        cases h4
        exact h5
      · have : (calleeGho P fc st g a w l ts all).own kk = .rw q := h6
        rw [hkk] at this
        cases this
  refine ⟨h.1, ?_⟩
  have h4 := h.2
  rcases h3 with h3 | ⟨h3, hbb⟩ | ⟨m0, h3, hbb, hl0, hp0⟩ | ⟨m0, h3, hbb, hl0, hp0⟩
  · rw [h3] at h4
    cases hbv : x.2.2.1 with
    | false => exact ⟨h4.1.mono hst, hkn, fun _ => ⟨fun kk hkk => hno (by rw [h3]; rfl) kk (.inr hkk), e, s, rfl, h2, hrho⟩⟩
    | true =>
      have hd : d.toL = [] := by
        have := h4.1
        rw [h4.2] at this
        cases this with
        | nil _ _ h => exact h
        | sl _ _ _ _ _ _ _ _ _ _ hn _ _ _ _ _ => exact List.eq_nil_of_length_eq_zero hn
      exact ⟨hkn, fun _ => ⟨fun kk s' hkk => hno (by rw [h3]; rfl) kk (.inl ⟨s', hkk⟩), e, s, none, 0, 0, 0, 0, fun _ _ => undef, rfl, h2, h4.2, hrho, by rw [hd]; rfl, Nat.le_refl _, by decide, fun h => absurd h (by decide), fun i j hi => absurd hi (Nat.not_lt_zero _), fun i j k hi => absurd hi (Nat.not_lt_zero _)⟩⟩
  · rw [h3] at h4
    rw [hbb]
    exact ⟨h4.1.mono hst, hkn, fun _ => ⟨fun kk hkk => hno (by rw [h3]; rfl) kk (.inr hkk), e, s, rfl, h2, hrho⟩⟩
  · rw [h3] at h4
    rw [hbb]
    obtain ⟨h5, h6⟩ := h4.2.2 hl0
    exact ⟨h4.1.mono hst, hkn, fun _ => ⟨fun kk hkk => h5 kk ((hof m0 (by rw [h3]; rfl)).2.1 kk hkk), e, s, rfl, h2, hrho⟩⟩
  · rw [h3] at h4
    rw [hbb]
    obtain ⟨h5, e1, s1, p, n, c, bb, o, uu, r1, r2, r3, r4, r5, r6, r7, r8, r9, r10⟩ := h4.2 hl0
    cases r1
    rw [h2] at r2
    cases r2
    exact ⟨hkn, fun _ => ⟨fun kk s' hkk => h5 kk s' ((hof m0 (by rw [h3]; rfl)).2.2 kk s' hkk), e, s, p, n, c, bb, o, uu, rfl, h2, r3, hrho, r5, r6, r7, fun h0 => ⟨(r8 h0).1, (hof m0 (by rw [h3]; rfl)).1 _ (r8 h0).2⟩, r9, fun i j k hi hj => (r10 i j k hi hj).mono hst⟩⟩
end
end Go.Proofs.Ytkimdfpmblhapaa.Va

/- Calls: the callee begins. -/
set_option linter.unusedVariables false
set_option linter.unusedSimpArgs false
namespace Go.Proofs.Ytkimdfpmblhapaa.Va
open Go.RowKit

section
variable {P : Program} {cfs : FuncId → Nat → FCfg} {fc : FCfg} {env : Env} {X X' : Nat → Nat → Prop} {w0 : World} {g0 g g' gc : Gho} {st st' b u : St} {a a' : Act} {w w' : World} {l : List Nat} {ts : List TypeId} {all : List AV}
/-- A row that is given away. -/
theorem ga_ra (hr : Rel P X w0 g0 g st a w) (hp : CallPre P fc st l ts all) (hl : ts.length = all.length) {r : Nat} {t : TypeId} {x : AV} {e : TypeId} {s : Sh} {d : D} {ap : Ap} {vv : Value}
    (h1 : (gaM P fc.argArr 0 ts all)[r]? = some (gaAp P t x)) (h2 : (gaSz P fc.argArr 0 ts)[r]? = some s.ks.length) (h3 : shp P e = some s) (h4 : RA P X g st w (.sl e) d ap vv) (h5 : (∃ m, ap = .arr m ∧ gaAp P t x = some m) ∨ (ap = .nl ∧ gaAp P t x = none))
    {as : List AV} {obs : List Ob} {k : Nat} : RA P (calleeX P fc st X g l ts all) (calleeGho P fc st g a w l ts all) (st0 fc as obs k) w (.sl e) d (.arr (fc.ins.length + r)) vv := by
  have hst : Stay w (Wr X g) w (Wr (calleeX P fc st X g l ts all) (calleeGho P fc st g a w l ts all)) := calleeStay a w
  have hrl : r < fc.argArr.length := by
    have := (List.getElem?_eq_some_iff.1 h1).1
    rw [gaM_length P fc.argArr 0 ts all hl] at this
    rw [hp.cnt]
    exact this
  have hkn : knownTk (st0 fc as obs k) (fc.ins.length + r) := by unfold knownTk; rw [st0_tk, if_pos (by omega)]; rfl
  have hM : (callM P fc st l ts all)[fc.ins.length + r]? = some (gaAp P t x) := by
    unfold callM inM
    rw [List.getElem?_append_right (by rw [List.length_map, insT_length]; omega), List.length_map, insT_length, Nat.add_sub_cancel_left]
    exact h1
  have hTn : (insT l fc.ins)[fc.ins.length + r]? = none := List.getElem?_eq_none (by rw [insT_length]; omega)
  refine ⟨h4.1, hkn, fun _ => ?_⟩
  rcases h5 with ⟨m, rfl, hm⟩ | ⟨rfl, hm⟩
  · rw [hm] at hM
    have hi := idxM_at hp.once hM
    have hlive : liveTk st m = true := useTk_live (hp.use m (by
      rw [← gaM_marks]
      exact nodup_mem (i := r) (by rw [h1, hm])))
    obtain ⟨h5, e1, s1, p, n, c, bb, o, uu, r1, r2, r3, r4, r5, r6, r7, r8, r9, r10⟩ := h4.2.2 hlive
    cases r1
    rw [h3] at r2
    cases r2
    refine ⟨fun kk s' hkk => ?_, e, s, p, n, c, bb, o, uu, rfl, h3, r3, ?_, r5, r6, r7, fun h0 => ⟨(r8 h0).1, ?_⟩, r9, fun i j k hi hj => (r10 i j k hi hj).mono hst⟩
    · obtain ⟨m', h6, ⟨s2, h7, _⟩ | ⟨_, h7⟩⟩ := ownC_tk (l := l) (.inl ⟨s', hkk⟩)
      · rw [hM] at h6; cases h6; exact h5 kk s2 h7
      · have : (calleeGho P fc st g a w l ts all).own kk = .rw (fc.ins.length + r) := h7
        rw [hkk] at this
        cases this
    · show (match (insT l fc.ins)[fc.ins.length + r]? with | some x => _ | none => _) = _
      rw [hTn]
      simp only
      rw [List.getD_eq_getElem?_getD, hM]
      exact r4
    · show ownC l _ (g.own bb) = _
      rw [(r8 h0).2]
      unfold ownC
      simp only [hi]
  · rw [hm] at hM
    have hd : d.toL = [] := by
      have := h4.2.1
      rw [h4.2.2] at this
      cases this with
      | nil _ _ h => exact h
      | sl _ _ _ _ _ _ _ _ _ _ hn _ _ _ _ _ => exact List.eq_nil_of_length_eq_zero hn
    refine ⟨fun kk s' hkk => ?_, e, s, none, 0, 0, 0, 0, fun _ _ => undef, rfl, h3, h4.2.2, ?_, by rw [hd]; rfl, Nat.le_refl _, by decide, fun h => absurd h (by decide), fun i j hi => absurd hi (Nat.not_lt_zero _), fun i j k hi => absurd hi (Nat.not_lt_zero _)⟩
    · obtain ⟨m', h6, _⟩ := ownC_tk (l := l) (.inl ⟨s', hkk⟩)
      rw [hM] at h6
      cases h6
    · show (match (insT l fc.ins)[fc.ins.length + r]? with | some x => _ | none => _) = _
      rw [hTn]
      simp only
      rw [List.getD_eq_getElem?_getD, hM, List.getD_eq_getElem?_getD, Nat.add_sub_cancel_left, h2, h4.2.2]
      rfl
theorem mem_getElem {α : Type} {l : List α} {x : α} (h : x ∈ l) : ∃ i : Nat, l[i]? = some x := by
  obtain ⟨i, h1, h2⟩ := List.mem_iff_getElem.1 h
  exact ⟨i, by rw [List.getElem?_eq_getElem h1, h2]⟩
theorem call_in (hr : Rel P X w0 g0 g st a w) (hp : CallPre P fc st l ts all) {args : List AV} {obs : List Ob} (hargs : castArgs P l fc.argArr 0 fc.ins.length ts all = some args) (hobs : renObs st.hp l fc.ins 0 l = some obs)
    (vs : List Value) (hvl : vs.length = all.length) (hv : ∀ k, RV P X g st w (all.getD k .undef) (vs.getD k undef)) (hn : ∀ n, n ∈ allNames all → n ∈ l)
    (cap : List XV) (vc : List Value) (hcl : vc.length = cap.length) (hc : ∀ k x, cap[k]? = some x → RX g st.has x (vc.getD k undef)) (hcn : ∀ x, x ∈ cap → ∀ n, n ∈ x.names → n ∈ l) (k : Nat) :
    Rel P (calleeX P fc st X g l ts all) w (calleeGho P fc st g a w l ts all) (calleeGho P fc st g a w l ts all) (st0 fc (args ++ cap.map fun v => xv (v.ren l)) obs k) { tmps := (vs ++ vc).toArray ++ Array.replicate (k - (vs ++ vc).toArray.size) undef, defers := [] } w := by
  have hst : Stay w (Wr X g) w (Wr (calleeX P fc st X g l ts all) (calleeGho P fc st g a w l ts all)) := calleeStay a w
  obtain ⟨hol, hos⟩ := renObs_spec hobs
  have hmu : ∀ p, (calleeGho P fc st g a w l ts all).mu p = g.mu (l.getD p 0) := fun _ => rfl
  have hok : ∀ p, p < l.length → (st0 fc (args ++ cap.map fun v => xv (v.ren l)) obs k).has p = true := fun p h => by
    unfold St.has
    rw [st0_hp, List.getElem?_eq_getElem (by omega)]
    rfl
  have hlen : ts.length = all.length := by
    have : ∀ (ts : List TypeId) (all args : List AV) (i q : Nat), castArgs P l fc.argArr i q ts all = some args → ts.length = all.length := by
      intro ts
      induction ts with
      | nil => intro all args i q h; cases all with
        | nil => rfl
        | cons x r => unfold castArgs at h; cases h
      | cons t ts ih => intro all args i q h; cases all with
        | nil => unfold castArgs at h; cases h
        | cons x r =>
          unfold castArgs at h
          split at h
          · rename_i y as h1 h2; simp [ih _ _ _ _ h2]
          · cases h
    exact this _ _ _ _ _ hargs
  obtain ⟨hal, _, harg⟩ := castArgs_rv (u := st0 fc (args ++ cap.map fun v => xv (v.ren l)) obs k) hst hmu hok ts all args vs 0 fc.ins.length hargs hvl hv hn (fun r t x e s d ap vv e1 e2 e3 e4 e5 => ga_ra hr hp hlen e1 e2 e3 e4 e5)
  refine ⟨rfl, ?_, fun i => ?_, fun p o ho => ?_, fun q hq => ?_, .refl (fun bb hb => hr.fr.lt bb (fun h => hb (by show ownC l _ (g.own bb) = _; rw [h]; rfl))) _ _ _ _, fun bb o h => ?_, fun bb o h => h.2, fun bb q h => ?_, fun m hm => by cases hm⟩
  · show (_ : Array Value).size = ((args ++ cap.map fun v => xv (v.ren l)).map norm ++ repA AV.undef _).length
    simp only [Array.size_append, List.size_toArray, List.length_append, Array.size_replicate, List.length_map, length_repA]
    omega
  · show RV _ _ _ _ _ (((args ++ cap.map fun v => xv (v.ren l)).map norm ++ repA AV.undef _).getD i AV.undef) (((vs ++ vc).toArray ++ Array.replicate (k - (vs ++ vc).toArray.size) undef).getD i undef)
    rw [getD_app]
    split
    · rename_i hi
      simp only [List.length_map, List.length_append] at hi
      rw [getD_map _ _ _ _ rfl]
      have hval : ((vs ++ vc).toArray ++ Array.replicate (k - (vs ++ vc).toArray.size) undef).getD i undef = (vs ++ vc).getD i undef := by
        rw [Array.getD_eq_getD_getElem?, Array.getElem?_append_left (by simp only [List.size_toArray, List.length_append]; omega), List.getElem?_toArray, List.getD_eq_getElem?_getD]
      rw [hval, getD_app, getD_app]
      by_cases h1 : i < args.length
      · rw [if_pos h1, if_pos (by omega)]
        exact norm_rv (harg i)
      · rw [if_neg h1, if_neg (by omega)]
        have h2 : i - args.length < cap.length := by omega
        have h3 : (cap.map fun v => xv (v.ren l)).getD (i - args.length) .undef = xv ((cap[i - args.length]'h2).ren l) := getD_of (by rw [List.getElem?_map, List.getElem?_eq_getElem h2]; rfl)
        rw [h3]
        refine norm_rv (mk_x ?_)
        have := hc (i - args.length) _ (List.getElem?_eq_getElem h2)
        rw [show i - vs.length = i - args.length by omega]
        exact rx_ren this hok hmu (hcn _ (List.getElem_mem h2))
    · rw [getD_repA]; trivial
  · -- a variable
    rw [st0_hp] at ho
    have hpl : p < l.length := by have := (List.getElem?_eq_some_iff.1 ho).1; omega
    obtain ⟨o', h1, h2⟩ := hos p l[p] (List.getElem?_eq_getElem hpl)
    rw [ho] at h1
    cases h1
    rw [Nat.zero_add] at h2
    have hnl : l[p] ∈ l := List.getElem_mem hpl
    have hpos : posOf l l[p] = p := posOf_nodup hp.nd (List.getElem?_eq_getElem hpl)
    have hmup : (calleeGho P fc st g a w l ts all).mu p = g.mu l[p] := by rw [hmu, getD_of (List.getElem?_eq_getElem hpl)]
    have hownp : ∀ bb, g.own bb = .ob l[p] → (calleeGho P fc st g a w l ts all).own bb = .ob p := fun bb hb => by
      show ownC l _ (g.own bb) = _
      rw [hb]
      show (if l[p] ∈ l then Gh.ob (posOf l l[p]) else .dat) = _
      rw [if_pos hnl, hpos]
    cases hob : st.hp.getD l[p] none with
    | none => rw [hob] at h2; cases h2
    | some oo =>
      rw [hob] at h2
      have hro := hr.objs _ _ hob
      cases oo with
      | map kt vt d =>
        cases h2
        obtain ⟨es, clock, kk, sv, e1, e2, e3, e4, e5, e6⟩ := hro
        refine ⟨es, clock, kk, sv, by rw [hmup]; exact e1, by rw [hmup]; exact hownp _ e2, e3, e4, e5, fun i p' hp' => ?_⟩
        obtain ⟨q, e7, e8, e9, e10⟩ := e6 i p' hp'
        refine ⟨q, e7, e8.mono hst, e9, e10.len, e10.lap, fun j kj hj => ?_⟩
        have h10 := e10.at_ j kj hj
        rw [roAps_getD _ _ (List.getElem?_eq_some_iff.1 hj).1] at h10 ⊢
        exact ⟨h10.1, h10.2.mono hst⟩
      | cells s d aps =>
        cases h2
        obtain ⟨cs, e, e1, e2, e3, e4⟩ := hro
        refine ⟨cs, e, by rw [hmup]; exact e1, by rw [hmup]; exact hownp _ e2, e3, e4.len, by rw [renAps_length]; exact e4.lap, fun j kj hj => ?_⟩
        have hjl : j < aps.length := by rw [e4.lap]; exact (List.getElem?_eq_some_iff.1 hj).1
        rw [renAps_getD l fc.ins p aps 0 j hjl, Nat.zero_add]
        have h12 := e4.at_ j kj hj
        have hins : ∀ q bb, renAps.insAt fc.ins 0 p j = some (q, bb) → RA P (calleeX P fc st X g l ts all) (calleeGho P fc st g a w l ts all) (st0 fc (args ++ cap.map fun v => xv (v.ren l)) obs k) w kj (s.at d j) (mkAp bb q) (cs.toList.getD j undef) := fun q bb hq => by
          obtain ⟨i, rfl, hi⟩ := insAt_some hq
          rw [Nat.zero_add]
          have hx : (insT l fc.ins)[i]? = some (l[p], some j, bb, 0) := by
            rw [insT_at, hi]
            simp only [Option.map_some]
            rw [getD_of (List.getElem?_eq_getElem hpl)]
          obtain ⟨e', s1, dd, f1, f2, f3, f4, _, f5⟩ := tok_ra hr (ins_tok hr hp hx)
          obtain ⟨s0, d00, aps00, f6, f7, f8⟩ := f5 j rfl
          simp only at f6
          rw [hob] at f6
          cases f6
          rw [hj] at f7
          cases f7
          rw [f8] at f4
          have := ins_ra hr hp hlen hx (as := args ++ cap.map fun v => xv (v.ren l)) (obs := obs) (k := k) f2 f4
          have hval : valAt a g w l[p] (some j) = cs.toList.getD j undef := by unfold valAt; simp only [e1]
          rw [← hval]
          exact this
        have hro2 : dataAp (aps.getD j .dead) = true → RA P (calleeX P fc st X g l ts all) (calleeGho P fc st g a w l ts all) (st0 fc (args ++ cap.map fun v => xv (v.ren l)) obs k) w kj (s.at d j) .ro (cs.toList.getD j undef) := fun hd => ⟨h12.1, (data_rl hd h12).mono hst⟩
        unfold renAp
        cases h13 : aps.getD j .dead with
        | x vx =>
          simp only
          rw [h13] at h12
          exact ⟨h12.1, rx_ren h12.2 hok hmu (fun n hnn => hp.reach _ hnl n (by rw [hob]; exact apNames_at h13 hnn))⟩
        | ro =>
          simp only
          split
          · rename_i q h14; exact hins q true h14
          · rename_i q h14; exact hins q false h14
          · exact hro2 (by rw [h13]; rfl)
        | nl =>
          simp only
          split
          · rename_i q h14; exact hins q true h14
          · rename_i q h14; exact hins q false h14
          · exact hro2 (by rw [h13]; rfl)
        | full =>
          simp only
          split
          · rename_i q h14; exact hins q true h14
          · rename_i q h14; exact hins q false h14
          · exact hro2 (by rw [h13]; rfl)
        | own _ =>
          simp only
          split
          · rename_i q h14; exact hins q true h14
          · rename_i q h14; exact hins q false h14
          · exact hro2 (by rw [h13]; rfl)
        | dead =>
          simp only
          split
          · rename_i q h14; exact hins q true h14
          · rename_i q h14; exact hins q false h14
          · exact ⟨h12.1, trivial⟩
        | arr _ =>
          simp only
          split
          · rename_i q h14; exact hins q true h14
          · rename_i q h14; exact hins q false h14
          · exact ⟨h12.1, trivial⟩
  · -- a mark
    have hq' := st0_live.1 hq
    have hMl := callM_length hp hlen
    have hno : (callM P fc st l ts all)[q]? = some none → ∀ kk, ¬ ((calleeGho P fc st g a w l ts all).own kk).isTk q := fun hn kk hkk => by
      obtain ⟨m, h4, _⟩ := ownC_tk hkk
      rw [hn] at h4
      cases h4
    have hold : ∀ m0, (callM P fc st l ts all)[q]? = some (some m0) → liveTk st m0 = true → (calleeGho P fc st g a w l ts all).rho q = g.rho m0 → RT (calleeGho P fc st g a w l ts all) w q := fun m0 hM hl0 hG => by
      have hi := idxM_at hp.once hM
      obtain ⟨p, n, c, h7, h8, h9⟩ := hr.toks m0 hl0
      refine ⟨p, n, c, by rw [hG]; exact h7, h8, ?_⟩
      rw [hG]
      rcases h9 with ⟨h9, h10⟩ | ⟨bb, cs, et, h9, h10, h11, h12⟩
      · refine .inl ⟨h9, fun k hk => ?_⟩
        obtain ⟨m1, h13, ⟨s', _, h14⟩ | ⟨h14, _⟩⟩ := ownC_tk (l := l) (.inr hk)
        · have : (calleeGho P fc st g a w l ts all).own k = .tl q s' := h14
          rw [hk] at this
          cases this
        · rw [hM] at h13; cases h13; exact h10 k h14
      · refine .inr ⟨bb, cs, et, h9, h10, h11, ?_⟩
        rcases h12 with h12 | h12
        · refine .inl ?_
          show ownC l _ (g.own bb) = _
          rw [h12]
          unfold ownC
          simp only [hi]
        · refine .inr ?_
          show ownC l _ (g.own bb) = _
          rw [h12]
          unfold ownC
          simp only [hi]
    by_cases hqi : q < fc.ins.length
    · obtain ⟨x, hx⟩ : ∃ x, (insT l fc.ins)[q]? = some x := ⟨_, List.getElem?_eq_getElem (by rw [insT_length]; exact hqi)⟩
      have hM := callM_ins (P := P) (fc := fc) (st := st) (l := l) (ts := ts) (all := all) hx
      have hrho : (calleeGho P fc st g a w l ts all).rho q = (valAt a g w x.1 x.2.1, sizeAt P st x.1 x.2.1) := by
        show (match (insT l fc.ins)[q]? with | some x => _ | none => _) = _
        rw [hx]
      obtain ⟨e, s, d, e1, e2, e3, e4, _, _⟩ := tok_ra hr (ins_tok hr hp hx)
      rcases (ins_tok hr hp hx).2 with h3 | ⟨h3, hbb⟩ | ⟨m0, h3, hbb, hl0, hp0⟩ | ⟨m0, h3, hbb, hl0, hp0⟩
      · rw [h3] at e4 hM
        exact ⟨none, 0, 0, by rw [hrho]; exact e4.2.2, Nat.le_refl _, .inl ⟨rfl, fun k hk => hno hM k (.inr hk)⟩⟩
      · rw [h3] at e4 hM
        obtain ⟨_, p, n, h5⟩ := e4.2
        exact ⟨p, n, n, by rw [hrho]; exact h5, Nat.le_refl _, .inl ⟨rfl, fun k hk => hno hM k (.inr hk)⟩⟩
      · rw [h3] at e4 hM
        obtain ⟨_, e5, s5, h5, h6, h7⟩ := e4.2.2.2 hl0
        cases h5
        rw [e1] at h6
        cases h6
        exact hold m0 hM hl0 (by rw [hrho, e3, h7])
      · rw [h3] at e4 hM
        obtain ⟨_, e5, s5, p, n, c, bb, o, uu, r1, r2, r3, r4, _⟩ := e4.2.2 hl0
        cases r1
        rw [e1] at r2
        cases r2
        exact hold m0 hM hl0 (by rw [hrho, e3, r4])
    · obtain ⟨y, hy⟩ : ∃ y, (callM P fc st l ts all)[q]? = some y := ⟨_, List.getElem?_eq_getElem (by omega)⟩
      have hrho : ∀ z, y = z → (calleeGho P fc st g a w l ts all).rho q = (match z with | some m => g.rho m | none => (.slice none 0 0, (gaSz P fc.argArr 0 ts).getD (q - fc.ins.length) 0)) := by
        intro z hz
        show (match (insT l fc.ins)[q]? with | some x => _ | none => _) = _
        rw [List.getElem?_eq_none (by rw [insT_length]; omega)]
        simp only
        rw [List.getD_eq_getElem?_getD, hy, hz]
        rfl
      cases y with
      | none => exact ⟨none, 0, 0, by rw [hrho none rfl], Nat.le_refl _, .inl ⟨rfl, fun k hk => hno hy k (.inr hk)⟩⟩
      | some m0 =>
        refine hold m0 hy (useTk_live (hp.use m0 ?_)) (hrho _ rfl)
        have hy2 : (gaM P fc.argArr 0 ts all)[q - fc.ins.length]? = some (some m0) := by
          unfold callM inM at hy
          rwa [List.getElem?_append_right (by rw [List.length_map, insT_length]; omega), List.length_map, insT_length] at hy
        rw [← gaM_marks]
        exact nodup_mem hy2
  · rcases h.1 with h1 | h1
    · exact Nat.lt_of_lt_of_le (hr.xlt _ _ h1) hr.fr.size
    · exact hr.fr.lt _ (fun h2 => by rw [h2] at h1; exact h1)
  · obtain ⟨m, h1, _⟩ := ownC_tk h
    refine st0_live.2 ?_
    have := (List.getElem?_eq_some_iff.1 h1).1
    rwa [callM_length hp hlen] at this
end
end Go.Proofs.Ytkimdfpmblhapaa.Va
