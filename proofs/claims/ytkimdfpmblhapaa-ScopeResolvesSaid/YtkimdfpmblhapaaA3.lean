/- The abstract interpreter over the loaded code, and parts of the proof that what it computes is what the call comes to. No condition beyond those that each theorem states. -/
import Derived.Test.YtkimdfpmblhapaaA2
set_option linter.unusedVariables false
set_option linter.unusedSimpArgs false
set_option linter.constructorNameAsVariable false
/- append. -/
set_option linter.unusedVariables false
set_option linter.unusedSimpArgs false
namespace Go.Proofs.Ytkimdfpmblhapaa.Va
open Go.RowKit

section
variable {P : Program} {X : Nat → Nat → Prop} {w0 : World} {g0 g g' : Gho} {st st' : St} {a : Act} {w w' : World} {fc : FCfg} {o : Oper} {b : Bool} {out : Out}

theorem run_append_zero {t ty e : TypeId} {i : TypeInfo} (ht : P.underlying t = some (.slice e)) (hi : P.info? e = some i) {p q : Option Addr} {n c d : Nat} (hnc : n ≤ c) :
    (Builtin.append_ #[t, t] ty #[.slice p n c, .slice q 0 d]).run P w = .ok (.slice p n c) w := by
  cases p <;> cases q <;> simp [Builtin.append_, run_underlying ht, sizeOf, typeInfo, hi, Builtin.lenOf, Builtin.firstCells, loadCells, loadCellsFrom, storeCells, hnc]
theorem run_append_room' {t ty e e' : TypeId} {i : TypeInfo} (ht : P.underlying t = some (.slice e)) (hi : P.info? e = some i) {blk sLen sCap : Nat} {cur : Array Value} (hg : w.heap[blk]? = some (.cells cur e' (0, 0)))
    {ad : Addr} {m c : Nat} {news : List Value} (hl : news.length = m * i.size) (hnews : ∀ j u, news[j]? = some u → w.cell? (ad.add j) = some u) (h1 : ∀ u ∈ news, u.oneCell' = true)
    (hroom : sLen + m ≤ sCap) (hfit : sLen * i.size + news.length ≤ cur.size) :
    (Builtin.append_ #[t, t] ty #[.slice (some ⟨blk, 0, none⟩) sLen sCap, .slice (some ad) m c]).run P w =
      .ok (.slice (some ⟨blk, 0, none⟩) (sLen + m) sCap) (w.setRow blk (cur.toList.take (sLen * i.size) ++ news ++ cur.toList.drop (sLen * i.size + news.length)).toArray) := by
  have hf : (Builtin.firstCells i.size m (.slice (some ad) m c)).run P w = .ok news.toArray w := by
    simp only [Builtin.firstCells, ← hl]
    exact run_loadCells_list w ad news hnews
  have hst := run_storeCells_at P blk (sLen * i.size) e' news 0 cur w hg (by simpa using hfit) h1
  simp only [Nat.add_zero] at hst
  have ha : (⟨blk, 0, none⟩ : Addr).add (sLen * i.size) = ⟨blk, sLen * i.size, none⟩ := by rw [add_at, Nat.zero_add]
  simp [Builtin.append_, run_underlying ht, sizeOf, typeInfo, hi, Builtin.lenOf, hroom, hf, ha, hst]
/-- The blocks of one mark are another's now. -/
def retag (was : Option Nat) (now : Nat) (h : Gh) : Gh := match was, h with
  | some q, .tl m s => if m = q then .tl now s else .tl m s
  | some q, .rw m => if m = q then .rw now else .rw m
  | _, h => h
/-- The blocks of a mark are nobody's now. -/
def untag (was : Option Nat) (h : Gh) : Gh := match was, h with
  | some q, .tl m s => if m = q then .dat else .tl m s
  | some q, .rw m => if m = q then .dat else .rw m
  | _, h => h
theorem retag_at (was : Option Nat) (now : Nat) (h : Gh) (o' : Nat) : (retag was now h).at o' ↔ h.at o' := by
  unfold retag
  split
  · split <;> rfl
  · split <;> rfl
  · rfl
theorem retag_spec (was : Option Nat) (now : Nat) (h : Gh) : (retag was now h = h ∧ ¬ wasTk h was) ∨ (wasTk h was ∧ ((∃ s, h.isTk (was.getD 0) ∧ h = .tl (was.getD 0) s ∧ retag was now h = .tl now s) ∨ (h = .rw (was.getD 0) ∧ retag was now h = .rw now))) := by
  cases was with
  | none => exact .inl ⟨rfl, id⟩
  | some q =>
    cases h with
    | dat => exact .inl ⟨rfl, by rintro (⟨_, h⟩ | h) <;> cases h⟩
    | ob n => exact .inl ⟨rfl, by rintro (⟨_, h⟩ | h) <;> cases h⟩
    | tl m s =>
      by_cases hm : m = q
      · subst hm
        exact .inr ⟨.inl ⟨s, rfl⟩, .inl ⟨s, .inl ⟨s, rfl⟩, rfl, by simp [retag]⟩⟩
      · exact .inl ⟨by simp [retag, hm], by rintro (⟨_, h⟩ | h) <;> cases h; exact hm rfl⟩
    | rw m =>
      by_cases hm : m = q
      · subst hm
        exact .inr ⟨.inr rfl, .inr ⟨rfl, by simp [retag]⟩⟩
      · exact .inl ⟨by simp [retag, hm], by rintro (⟨_, h⟩ | h) <;> cases h; exact hm rfl⟩
theorem untag_spec (was : Option Nat) (h : Gh) : (untag was h = h ∧ ¬ wasTk h was) ∨ (wasTk h was ∧ untag was h = .dat) := by
  cases was with
  | none => exact .inl ⟨rfl, id⟩
  | some q =>
    cases h with
    | dat => exact .inl ⟨rfl, by rintro (⟨_, h⟩ | h) <;> cases h⟩
    | ob n => exact .inl ⟨rfl, by rintro (⟨_, h⟩ | h) <;> cases h⟩
    | tl m s =>
      by_cases hm : m = q
      · subst hm
        exact .inr ⟨.inl ⟨s, rfl⟩, by simp [untag]⟩
      · exact .inl ⟨by simp [untag, hm], by rintro (⟨_, h⟩ | h) <;> cases h; exact hm rfl⟩
    | rw m =>
      by_cases hm : m = q
      · subst hm
        exact .inr ⟨.inr rfl, by simp [untag]⟩
      · exact .inl ⟨by simp [untag, hm], by rintro (⟨_, h⟩ | h) <;> cases h; exact hm rfl⟩
theorem untag_at {was : Option Nat} {h : Gh} {o' : Nat} (hh : (untag was h).at o') : h.at o' := by
  rcases untag_spec was h with ⟨h1, _⟩ | ⟨_, h1⟩
  · rwa [h1] at hh
  · rw [h1] at hh; exact hh.elim

/-- Nothing is appended: the slice gets another mark. -/
theorem app_same (hr : Rel P X w0 g0 g st a w) {was : Option Nat} {now : Nat} {v : Value} {z : Nat} (hnow : now < st.tk.length) (hfree : st.tk.getD now none = none) (hnp : now ∉ st.protT) (hwp : ∀ q, was = some q → q ∉ st.protT)
    (hv : (∃ p n, v = .slice p n n ∧ was = none) ∨ (∃ m, was = some m ∧ liveTk st m = true ∧ g.rho m = (v, z))) :
    To P X g st w { g with rho := upd g.rho now (v, z), own := fun b => retag was now (g.own b) } (HE.on st (.app was now)) w ∧ Rel P X w0 g0 { g with rho := upd g.rho now (v, z), own := fun b => retag was now (g.own b) } (HE.on st (.app was now)) a w := by
  have hdat : ∀ b, retag was now (g.own b) ≠ .dat → g.own b ≠ .dat := fun b h e => h (by rw [e]; cases was <;> rfl)
  have hno : ∀ b, ¬ (g.own b).isTk now := fun b hb => by
    have := liveTk_iff.1 (hr.tkl b _ hb)
    rw [hfree] at this
    cases this
  have hnr : ∀ b, (∀ q, was = some q → g.own b ≠ .rw q) → retag was now (g.own b) ≠ .rw now := fun b hq hb => by
    rcases retag_spec was now (g.own b) with h | ⟨h1, ⟨s, _, _, h2⟩ | ⟨h2, _⟩⟩
    · rw [h.1] at hb; exact hno b (.inr hb)
    · rw [h2] at hb; cases hb
    · cases was with
      | none => exact h1.elim
      | some q => exact hq q rfl h2
  refine hr.app hnow hfree hnp hwp (fun b => ?_) (fun b o v hc hw => ⟨hc, fun hx => hw ?_⟩) (fun _ _ _ => rfl) (Nat.le_refl _) rfl rfl rfl ?_ (fun b m s hb hwas hs => ⟨fun _ _ _ h => h, ?_⟩) (fun b hb => hr.fr.lt b (hdat b hb))
  · rcases retag_spec was now (g.own b) with h | ⟨h1, ⟨s, _, _, h2⟩ | ⟨_, h2⟩⟩
    · exact .inl h
    · exact .inr ⟨.inl h1, .inr (.inl ⟨s, h2⟩)⟩
    · exact .inr ⟨.inl h1, .inr (.inr h2)⟩
  · rcases hx with hx | hx
    · exact .inl hx
    · exact .inr ((retag_at was now _ o).1 hx)
  · rcases hv with ⟨p, n, rfl, h0⟩ | ⟨m, rfl, hl, hrho⟩
    · exact ⟨p, n, n, by simp only [upd_self], Nat.le_refl _, .inl ⟨rfl, fun b hb => hnr b (fun q h => by rw [h0] at h; cases h) hb⟩⟩
    · obtain ⟨p, n, c, h1, h2, h3⟩ := hr.toks m hl
      refine ⟨p, n, c, by simp only [upd_self]; rw [hrho] at h1; exact h1, h2, ?_⟩
      rcases h3 with h3 | ⟨bb, cs, e, h4, h5, h6, h7⟩
      · exact .inl ⟨h3.1, fun b hb => hnr b (fun q h hq => by cases h; exact h3.2 b hq) hb⟩
      · refine .inr ⟨bb, cs, e, h4, h5, by simp only [upd_self]; rw [hrho] at h6; exact h6, ?_⟩
        simp only [upd_self]
        rw [hrho] at h7
        rcases h7 with h7 | h7
        · exact .inl (by rw [h7]; simp [retag])
        · exact .inr (by rw [h7]; simp [retag])
  · subst hwas
    exact .inr ⟨now, s, by simp only [hs]; simp [retag], Nat.le_refl _⟩

/-- The block k of a mark. -/
def mkTk (arr : Bool) (now n : Nat) : Gh := if arr then .rw now else .tl now n
theorem mkTk_is (arr : Bool) (now n : Nat) : (mkTk arr now n).isTk now := by
  unfold mkTk
  split
  · exact .inr rfl
  · exact .inl ⟨n, rfl⟩
/-- Appended in place. -/
theorem app_place (hr : Rel P X w0 g0 g st a w) {m now : Nat} {n c q z bb : Nat} {arr : Bool} {cs cs' : Array Value} {e : TypeId} (hnow : now < st.tk.length) (hfree : st.tk.getD now none = none) (hnp : now ∉ st.protT) (hwp : m ∉ st.protT)
    (hb : w.heap[bb]? = some (.cells cs e (0, 0))) (how : g.own bb = .tl m (n * z) ∧ arr = false ∨ g.own bb = .rw m ∧ arr = true) (hcz : c * z ≤ cs.size) (hnc : n + q ≤ c)
    (hcs : cs'.size = cs.size) (hpre : ∀ k, k < n * z → cs'[k]? = cs[k]?) :
    To P X g st w { g with rho := upd g.rho now (.slice (some ⟨bb, 0, none⟩) (n + q) c, z), own := fun b => if b = bb then mkTk arr now ((n + q) * z) else untag (some m) (g.own b) } (HE.on st (.app (some m) now)) (w.setRow bb cs') ∧
      Rel P X w0 g0 { g with rho := upd g.rho now (.slice (some ⟨bb, 0, none⟩) (n + q) c, z), own := fun b => if b = bb then mkTk arr now ((n + q) * z) else untag (some m) (g.own b) } (HE.on st (.app (some m) now)) a (w.setRow bb cs') := by
  have htk : (g.own bb).isTk m := by rcases how with ⟨h, _⟩ | ⟨h, _⟩ <;> rw [h]; exact .inl ⟨_, rfl⟩; exact .inr rfl
  have hdat : ∀ b, untag (some m) (g.own b) ≠ .dat → g.own b ≠ .dat := fun b h e => h (by rw [e]; rfl)
  have hlt : bb < w.heap.size := hr.fr.lt bb (by rcases how with ⟨h, _⟩ | ⟨h, _⟩ <;> rw [h] <;> simp)
  have hother : ∀ b, b ≠ bb → (w.setRow bb cs').heap[b]? = w.heap[b]? := fun b h => setRow_other w bb b cs' h
  have hle : n * z ≤ (n + q) * z := Nat.mul_le_mul_right z (by omega)
  refine hr.app hnow hfree hnp (fun q hq => by cases hq; exact hwp) (fun b => ?_) (fun b o v hc hw => ?_) (fun b _ h => hother b (by rintro rfl; exact h htk)) (by simp [World.setRow]) rfl rfl rfl ?_ (fun b m' s hb' hwas hs => ?_) (fun b hb' => ?_)
  · by_cases hbb : b = bb
    · subst hbb
      exact .inr ⟨.inl htk, .inr (by simp only [if_true]; exact mkTk_is _ _ _)⟩
    · simp only [if_neg hbb]
      rcases untag_spec (some m) (g.own b) with h | h
      · exact .inl h
      · exact .inr ⟨.inl h.1, .inl h.2⟩
  · by_cases hbb : b = bb
    · subst hbb
      rcases how with ⟨h, rfl⟩ | ⟨h, rfl⟩
      · have ho : o < n * z := by
          have : ¬ n * z ≤ o := fun hh => hw (.inr (by rw [h]; exact hh))
          omega
        refine ⟨?_, fun hx => ?_⟩
        · rw [cell_at (setRow_hp hb), hpre o ho, ← cell_at hb]
          exact hc
        · rcases hx with hx | hx
          · exact hw (.inl hx)
          · simp only [if_true, mkTk] at hx
            have hx : (n + q) * z ≤ o := hx
            omega
      · exact absurd (.inr (by rw [h]; trivial)) hw
    · refine ⟨(cell_block (hother b hbb)).trans hc, fun hx => hw ?_⟩
      rcases hx with hx | hx
      · exact .inl hx
      · simp only [if_neg hbb] at hx
        exact .inr (untag_at hx)
  · refine ⟨_, n + q, c, by simp only [upd_self], hnc, .inr ⟨bb, cs', e, rfl, setRow_hp hb, by simp only [upd_self]; rw [hcs]; exact hcz, ?_⟩⟩
    simp only [upd_self, if_true, mkTk]
    cases arr
    · exact .inl rfl
    · exact .inr rfl
  · cases hwas
    by_cases hbb : b = bb
    · subst hbb
      rcases how with ⟨h, rfl⟩ | ⟨h, rfl⟩
      · rw [h] at hs
        cases hs
        refine ⟨fun o v ho hv => by rw [cell_at (setRow_hp hb), hpre o ho, ← cell_at hb]; exact hv, .inr ⟨now, (n + q) * z, by simp [mkTk], hle⟩⟩
      · rw [h] at hs
        cases hs
    · refine ⟨fun o v ho hv => (cell_block (hother b hbb)).trans hv, .inl ?_⟩
      simp only [if_neg hbb]
      rcases untag_spec (some m) (g.own b) with h | h
      · exact absurd (.inl ⟨s, hs⟩) h.2
      · exact h.2
  · by_cases hbb : b = bb
    · rw [hbb]; simpa [World.setRow] using hlt
    · simp only [if_neg hbb] at hb'
      have := hr.fr.lt b (hdat b hb')
      simpa [World.setRow] using this
/-- Appended into a new row. -/
theorem app_grow (hr : Rel P X w0 g0 g st a w) {was : Option Nat} {now : Nat} {N c z : Nat} {arr : Bool} {cs : Array Value} {e : TypeId} (hnow : now < st.tk.length) (hfree : st.tk.getD now none = none) (hnp : now ∉ st.protT) (hwp : ∀ q, was = some q → q ∉ st.protT) (hcz : c * z ≤ cs.size) (hnc : N ≤ c) :
    To P X g st w { g with rho := upd g.rho now (.slice (some ⟨w.heap.size, 0, none⟩) N c, z), own := fun b => if b = w.heap.size then mkTk arr now (N * z) else untag was (g.own b) } (HE.on st (.app was now)) (w.drew.alloc (.cells cs e)) ∧
      Rel P X w0 g0 { g with rho := upd g.rho now (.slice (some ⟨w.heap.size, 0, none⟩) N c, z), own := fun b => if b = w.heap.size then mkTk arr now (N * z) else untag was (g.own b) } (HE.on st (.app was now)) a (w.drew.alloc (.cells cs e)) := by
  have hdat : ∀ b, untag was (g.own b) ≠ .dat → g.own b ≠ .dat := fun b h e => h (by rw [e]; cases was <;> rfl)
  have hnd : ∀ b, w.heap.size ≤ b → g.own b = .dat := fun b hb => Classical.byContradiction fun h => by
    have := hr.fr.lt b h
    omega
  have hother : ∀ b, b < w.heap.size → (w.drew.alloc (.cells cs e)).heap[b]? = w.heap[b]? := fun b h => Below.heap_alloc w.drew _ b h
  have hnew : (w.drew.alloc (.cells cs e)).heap[w.heap.size]? = some (.cells cs e (0, 0)) := heap_alloc_new w.drew _
  have hsz : (w.drew.alloc (.cells cs e)).heap.size = w.heap.size + 1 := by simp
  refine hr.app hnow hfree hnp hwp (fun b => ?_) (fun b o v hc hw => ?_) (fun b hb _ => hother b hb) (by rw [hsz]; omega) rfl rfl rfl ?_ (fun b m' s hb' hwas hs => ?_) (fun b hb' => ?_)
  · by_cases hbb : b = w.heap.size
    · subst hbb
      exact .inr ⟨.inr (Nat.le_refl _), .inr (by simp only [if_true]; exact mkTk_is _ _ _)⟩
    · simp only [if_neg hbb]
      rcases untag_spec was (g.own b) with h | h
      · exact .inl h
      · exact .inr ⟨.inl h.1, .inl h.2⟩
  · have hlt := World.block_lt_of_cell? w ⟨b, o, none⟩ hc
    have hbb : b ≠ w.heap.size := Nat.ne_of_lt hlt
    refine ⟨(cell_block (hother b hlt)).trans hc, fun hx => hw ?_⟩
    rcases hx with hx | hx
    · exact .inl hx
    · simp only [if_neg hbb] at hx
      exact .inr (untag_at hx)
  · refine ⟨_, N, c, by simp only [upd_self], hnc, .inr ⟨w.heap.size, cs, e, rfl, hnew, by simp only [upd_self]; exact hcz, ?_⟩⟩
    simp only [upd_self, if_true, mkTk]
    cases arr
    · exact .inl rfl
    · exact .inr rfl
  · subst hwas
    have hbb : b ≠ w.heap.size := Nat.ne_of_lt hb'
    refine ⟨fun o v ho hv => (cell_block (hother b hb')).trans hv, .inl ?_⟩
    simp only [if_neg hbb]
    rcases untag_spec (some m') (g.own b) with h | h
    · exact absurd (.inl ⟨s, hs⟩) h.2
    · exact h.2
  · rw [hsz]
    by_cases hbb : b = w.heap.size
    · omega
    · simp only [if_neg hbb] at hb'
      have := hr.fr.lt b (hdat b hb')
      omega

theorem cast_rv' {t : TypeId} {x : Operand} {y : AV} (hr : Rel P X w0 g0 g st a w) (h : cast P t (st.ev x) = y) : RV P X g st w y (a.eval x) := by
  have := cast_rv (t := t) (hr.ev x)
  rwa [h] at this
theorem zc_get (z : Array Value) (n : Nat) : (Builtin.zeroCells z n).size = n * z.size := size_zeroCells z n
/-- The slice that is appended to: what it holds, and what is known of its row. -/
theorem app_dest (hr : Rel P X w0 g0 g st a w) {e : TypeId} {s : Sh} {d : D} {ap : Ap} {v : Value} (hs : shp P e = some s) (h : RA P X g st w (.sl e) d ap v) {was : Option Nat} {arr : Bool}
    (hm : (ap = .nl ∧ was = none) ∨ (ap = .full ∧ was = none) ∨ (∃ m, ap = .own m ∧ liveTk st m = true ∧ was = some m ∧ arr = false) ∨ (∃ m, ap = .arr m ∧ liveTk st m = true ∧ was = some m ∧ arr = true)) :
    ∃ p n c b o xs, v = .slice p n c ∧ n ≤ c ∧ (0 < n → p = some ⟨b, o, none⟩) ∧ RRs P (Wr X g) w s n d.toL xs ∧ (∀ j x, xs[j]? = some x → w.cell? ⟨b, o + j, none⟩ = some x) ∧ (p = none → n = 0 ∧ c = 0) ∧
      ((c = n ∧ was = none) ∨ ∃ m, was = some m ∧ liveTk st m = true ∧ g.rho m = (v, s.ks.length) ∧ (c = n ∨ ∃ bb cs e', p = some ⟨bb, 0, none⟩ ∧ w.heap[bb]? = some (.cells cs e' (0, 0)) ∧ c * s.ks.length ≤ cs.size ∧ (g.own bb = .tl m (n * s.ks.length) ∧ arr = false ∨ g.own bb = .rw m ∧ arr = true))) := by
  have hp := (shp_sh hs).2
  have hpn : ∀ {p : Option Addr} {n c b o : Nat}, (0 < n → p = some ⟨b, o, none⟩) → c = n → p = none → n = 0 ∧ c = 0 := fun {p n c b o} h1 h2 h3 => by
    rcases Nat.eq_zero_or_pos n with h | h
    · exact ⟨h, by omega⟩
    · rw [h3] at h1; cases h1 h
  rcases hm with ⟨rfl, rfl⟩ | ⟨rfl, rfl⟩ | ⟨m, rfl, hl, rfl, rfl⟩ | ⟨m, rfl, hl, rfl, rfl⟩
  · obtain ⟨p, n, c, b, o, u, hd⟩ := rl_sl hs h.2.1
    obtain ⟨xs, h1, h2⟩ := hd.flat hp
    have hv := hd.hv
    rw [h.2.2] at hv
    cases hv
    exact ⟨none, 0, 0, b, o, xs, h.2.2, Nat.le_refl _, by omega, h1, fun j x hx => (h2 j x hx).1, fun _ => ⟨rfl, rfl⟩, .inl ⟨rfl, rfl⟩⟩
  · obtain ⟨p, n, c, b, o, u, hd⟩ := rl_sl hs h.2.1
    obtain ⟨xs, h1, h2⟩ := hd.flat hp
    obtain ⟨p', n', hv'⟩ := h.2.2
    have hv := hd.hv
    rw [hv'] at hv
    cases hv
    exact ⟨_, _, _, b, o, xs, hv', Nat.le_refl _, hd.ha, h1, fun j x hx => (h2 j x hx).1, hpn hd.ha rfl, .inl ⟨rfl, rfl⟩⟩
  · obtain ⟨p, n, c, b, o, u, hd⟩ := rl_sl hs h.2.1
    obtain ⟨xs, h1, h2⟩ := hd.flat hp
    obtain ⟨hnr, e', s', he', hs', hrho⟩ := h.2.2.2 hl
    cases he'
    rw [hs] at hs'
    cases hs'
    obtain ⟨p', n', c', h3, h4, h5⟩ := hr.toks m hl
    rw [hrho] at h3 h5
    simp only at h3 h5
    have hv := hd.hv
    rw [h3] at hv
    cases hv
    refine ⟨p, n, c, b, o, xs, h3, h4, hd.ha, h1, fun j x hx => (h2 j x hx).1, fun hpn' => ?_, .inr ⟨m, rfl, hl, hrho, ?_⟩⟩
    · rcases h5 with h5 | ⟨bb, cs, e2, h6, _⟩
      · exact hpn hd.ha h5.1 hpn'
      · rw [hpn'] at h6; cases h6
    · rcases h5 with h5 | ⟨bb, cs, e2, h6, h7, h8, h9⟩
      · exact .inl h5.1
      · refine .inr ⟨bb, cs, e2, h6, h7, h8, .inl ⟨?_, rfl⟩⟩
        rcases h9 with h9 | h9
        · exact h9
        · exact absurd h9 (hnr bb)
  · obtain ⟨hnt, hrow⟩ := h.2.2 hl
    obtain ⟨p, n, c, b, o, xs, hv, hnc, hn47, ha, hrho, h1, h2⟩ := hrow.flat hs
    obtain ⟨p', n', c', h3, h4, h5⟩ := hr.toks m hl
    rw [hrho] at h3 h5
    simp only at h3 h5
    rw [hv] at h3
    cases h3
    refine ⟨p, n, c, b, o, xs, hv, hnc, fun hh => (ha hh).1, h1, h2, fun hpn' => ?_, .inr ⟨m, rfl, hl, hrho, ?_⟩⟩
    · rcases h5 with h5 | ⟨bb, cs, e2, h6, _⟩
      · exact hpn (fun hh => (ha hh).1) h5.1 hpn'
      · rw [hpn'] at h6; cases h6
    · rcases h5 with h5 | ⟨bb, cs, e2, h6, h7, h8, h9⟩
      · exact .inl h5.1
      · refine .inr ⟨bb, cs, e2, h6, h7, h8, .inr ⟨?_, rfl⟩⟩
        rcases h9 with h9 | h9
        · exact absurd h9 (hnt bb _)
        · exact h9

theorem RL.congr {W : Nat → Nat → Prop} {e : TypeId} {d d' : D} {v : Value} (h : RL P w W (.sl e) d v) (hd : d'.toL = d.toL) : RL P w W (.sl e) d' v := by
  cases h with
  | nil _ _ h => exact .nil e d' (by rw [hd]; exact h)
  | sl _ s _ a n c b o u h1 h2 h3 h4 h5 h6 h7 => exact .sl e s d' a n c b o u h1 (by rw [hd]; exact h2) h3 h4 h5 h6 (by rw [hd]; exact h7)
theorem RRow.congr {W : Nat → Nat → Prop} {m : Nat} {k : LK} {d d' : D} {v : Value} (h : RRow P g w W m k d v) (hd : d'.toL = d.toL) : RRow P g w W m k d' v := by
  obtain ⟨e, s, a, n, c, b, o, u, h1, h2, h3, h4, h5, h6⟩ := h
  exact ⟨e, s, a, n, c, b, o, u, h1, h2, h3, h4, by rw [hd]; exact h5, by rw [hd]; exact h6⟩
theorem known_app {was : Option Nat} {now : Nat} (h : now < st.tk.length) : knownTk (HE.on st (.app was now)) now := by
  unfold knownTk
  cases was with
  | none => simp [HE.on, h]
  | some q => simp [HE.on, h]
/-- What has come of an append, as a slot holds it. -/
theorem app_rv {e : TypeId} {s : Sh} {was : Option Nat} {now : Nat} {arr : Bool} {d : D} {v : Value} (hs : shp P e = some s) (hv : ∃ p n c, v = .slice p n c) (hk : knownTk (HE.on st (.app was now)) now) (hrho : g'.rho now = (v, s.ks.length))
    (ho : arr = false → RL P w' (Wr X g') (.sl e) d v ∧ ∀ b, g'.own b ≠ .rw now) (ha : arr = true → RRow P g' w' (Wr X g') now (.sl e) d v ∧ ∀ b s, g'.own b ≠ .tl now s) :
    RV P X g' (HE.on st (.app was now)) w' (.dt ⟨false, [.sl e]⟩ d [if arr then .arr now else .own now]) v := by
  obtain ⟨p, n, c, rfl⟩ := hv
  cases arr with
  | false => exact mk_cell ⟨rfl, (ho rfl).1, hk, fun _ => ⟨(ho rfl).2, e, s, rfl, hs, hrho⟩⟩
  | true => exact mk_cell ⟨rfl, hk, fun _ => ⟨(ha rfl).2, (ha rfl).1⟩⟩
theorem useTk_prot {m : Nat} (h : useTk st m = true) : m ∉ st.protT := by
  unfold useTk at h
  simp only [Bool.and_eq_true] at h
  simpa using h.2
theorem useTk_live {m : Nat} (h : useTk st m = true) : liveTk st m = true := by
  unfold useTk at h
  exact (Bool.and_eq_true _ _ ▸ h : _ ∧ _).1
theorem op_append {c : Call} {x y : Operand} (ho : o.op = .call c) (hc : c.callee = .builtin .append) (hargs : c.args.toList = [x, y]) (hcore : core P fc o st = some (b, out)) (hb : b = true) (hr : Rel P X w0 g0 g st a w) : Does P X w0 g0 o (st.out o.dst out) a w := by
  unfold core at hcore
  rw [ho] at hcore
  simp only [hc, hargs] at hcore
  have hargs' : c.args.map a.eval = #[a.eval x, a.eval y] := by
    have : c.args = #[x, y] := by apply Array.ext'; simpa using hargs
    rw [this]; simp
  split at hcore
  · rename_i t u nd htt hdst
    split at hcore
    · rename_i htu
      subst htu
      split at hcore
      · rename_i e e' dx ap e'' dy aq hu hcx hcy
        split at hcore
        · rename_i s i hs hi
          split at hcore
          · rename_i hcond
            simp only [Bool.and_eq_true, decide_eq_true_eq] at hcond
            obtain ⟨⟨⟨⟨⟨rfl, rfl⟩, hby⟩, haq⟩, hfree⟩, hzero⟩ := hcond
            obtain ⟨hf1, hf2, hf3⟩ := freeTk_spec hfree
            have hx := one_cell (cast_rv' hr hcx)
            have hy := one_cell (cast_rv' hr hcy)
            have hsh := (shp_sh hs).1
            have hpl := (shp_sh hs).2
            obtain ⟨i', u', hi', hisz, _⟩ := sh_spec hsh
            rw [hi] at hi'
            cases hi'
            obtain ⟨z, hz, hzc⟩ : ∃ z, i.zero = some z ∧ z.cells.size = s.ks.length := by
              cases hiz : i.zero with
              | none => rw [hiz] at hzero; cases hzero
              | some z => rw [hiz] at hzero; exact ⟨z, rfl, by simpa using hzero⟩
            -- the way out
            have hexec : ∀ {v : Value} {w' : World}, (Builtin.append_ #[t, t] o.type #[a.eval x, a.eval y]).run P w = .ok v w' → (execOp a.eval o).run P w = .ok (.value v) w' := fun h => by
              have hat : c.argTypes = #[t, t] := by apply Array.ext'; simpa using htt
              simp only [execOp, ho, resolve, hc, Sem.run_bind, Sem.run_pure, Result.andThen_ok, invoke, builtin, hargs', hat, h]
            -- all cases at once
            have key : ∀ (was : Option Nat) (arr : Bool), ((ap = .nl ∧ was = none) ∨ (ap = .full ∧ was = none) ∨ (∃ m, ap = .own m ∧ liveTk st m = true ∧ was = some m ∧ arr = false) ∨ (∃ m, ap = .arr m ∧ liveTk st m = true ∧ was = some m ∧ arr = true)) → (ap = .full → arr = false) → (∀ q, was = some q → q ∉ st.protT) →
                dx.toL.length + dy.toL.length ≤ 34359738368 → Does P X w0 g0 o (st.out o.dst ⟨.dt ⟨false, [.sl e]⟩ (.sl (dx.toL ++ dy.toL)) [if arr then .arr (st.tb + nd) else .own (st.tb + nd)], .app was (st.tb + nd)⟩) a w := by
              intro was arr hwas hfull hwp hbd
              obtain ⟨p, n, cc, bx, ox, xs, hvx, hnc, hpx, hrx, hxs, hpn, hrow⟩ := app_dest hr hs hx hwas
              obtain ⟨q, m, cy, by', oy, uy, hdy⟩ := rl_sl hs (data_rl haq hy)
              obtain ⟨ys, hry, hys⟩ := hdy.flat hpl
              have hvy := hdy.hv
              have hn : dx.toL.length = n := hrx.lds
              have hm : dy.toL.length = m := hdy.hn
              have hno : ∀ b, ¬ (g.own b).isTk (st.tb + nd) := fun b hb => by
                have := liveTk_iff.1 (hr.tkl b _ hb)
                rw [hf2] at this
                cases this
              have hmode : ∀ q, was = some q → (arr = false → ∀ b, g.own b ≠ .rw q) ∧ (arr = true → ∀ b s, g.own b ≠ .tl q s) := fun q hq => by
                rcases hwas with ⟨_, h⟩ | ⟨_, h⟩ | ⟨m', rfl, hl, h, h'⟩ | ⟨m', rfl, hl, h, h'⟩
                · rw [h] at hq; cases hq
                · rw [h] at hq; cases hq
                · rw [h] at hq; cases hq
                  exact ⟨fun _ => (hx.2.2.2 hl).1, fun h2 => by rw [h'] at h2; cases h2⟩
                · rw [h] at hq; cases hq
                  exact ⟨fun h2 => (by rw [h'] at h2; cases h2), fun _ => (hx.2.2 hl).1⟩
              have hkn := known_app (was := was) hf1
              have hun : ∀ b, (untag was (g.own b)).isTk (st.tb + nd) → False := fun b hb => by
                rcases untag_spec was (g.own b) with h | h
                · rw [h.1] at hb; exact hno b hb
                · rw [h.2] at hb; rcases hb with ⟨_, hb⟩ | hb <;> cases hb
              by_cases hm0 : m = 0
              · -- nothing is appended
                have hy0 : dy.toL = [] := List.eq_nil_of_length_eq_zero (by omega)
                have hsame := app_same (z := s.ks.length) (v := a.eval x) hr hf1 hf2 hf3 hwp (was := was) (by
                  rcases hrow with ⟨h1, h2⟩ | ⟨m', h1, h2, h3, _⟩
                  · exact .inl ⟨p, n, by rw [hvx, h1], h2⟩
                  · exact .inr ⟨m', h1, h2, h3⟩)
                have hrt : ∀ b, (retag was (st.tb + nd) (g.own b)).isTk (st.tb + nd) → ∃ q, was = some q ∧ ((∃ s', g.own b = .tl q s' ∧ retag was (st.tb + nd) (g.own b) = .tl (st.tb + nd) s') ∨ g.own b = .rw q ∧ retag was (st.tb + nd) (g.own b) = .rw (st.tb + nd)) := fun b hb => by
                  rcases retag_spec was (st.tb + nd) (g.own b) with h | ⟨h1, h2⟩
                  · rw [h.1] at hb; exact absurd hb (hno b)
                  · cases hw : was with
                    | none => rw [hw] at h1; exact h1.elim
                    | some q =>
                      rw [hw] at h2
                      simp only [Option.getD_some] at h2
                      rcases h2 with ⟨s', _, h3, h4⟩ | ⟨h3, h4⟩
                      · exact ⟨q, rfl, .inl ⟨s', h3, h4⟩⟩
                      · exact ⟨q, rfl, .inr ⟨h3, h4⟩⟩
                refine does_value hsame.2 (app_rv hs ⟨p, n, cc, hvx⟩ hkn (by simp only [upd_self]) (fun ha => ⟨?_, fun b hb => ?_⟩) (fun ha => ⟨?_, fun b s' hb => ?_⟩)) (hexec ?_)
                · have hda : dataAp ap = true := by
                    rcases hwas with ⟨rfl, _⟩ | ⟨rfl, _⟩ | ⟨m', rfl, _⟩ | ⟨m', rfl, _, _, h'⟩
                    · rfl
                    · rfl
                    · rfl
                    · rw [ha] at h'; cases h'
                  exact ((data_rl hda hx).congr (by rw [hy0, List.append_nil]; rfl)).mono hsame.1.stay
                · obtain ⟨q', h1, ⟨s', h2, h3⟩ | ⟨h2, h3⟩⟩ := hrt b (.inr hb)
                  · simp only at hb; rw [h3] at hb; cases hb
                  · exact (hmode q' h1).1 ha b h2
                · rcases hwas with ⟨rfl, h⟩ | ⟨rfl, h⟩ | ⟨m', rfl, _, _, h'⟩ | ⟨m', rfl, hl, h, h'⟩
                  · have hvn := hx.2.2
                    rw [hvx] at hvn
                    cases hvn
                    refine ⟨e, s, none, 0, 0, 0, 0, fun _ _ => undef, rfl, hs, hvx, by simp only [upd_self], ?_, Nat.le_refl _, by omega, fun h => by omega, fun i j h => by omega, fun i j k h => by omega⟩
                    rw [hy0, List.append_nil]
                    exact hn
                  · rw [hfull rfl] at ha; cases ha
                  · rw [ha] at h'; cases h'
                  · obtain ⟨e1, s1, a1, n1, c1, b1, o1, u1, r1, r2, r3, r4, r5, r6, r7, r8, r9, r10⟩ := ((hx.2.2 hl).2).congr (d' := .sl (dx.toL ++ dy.toL)) (by rw [hy0, List.append_nil]; rfl)
                    cases r1
                    rw [hs] at r2
                    cases r2
                    refine ⟨e, s, a1, n1, c1, b1, o1, u1, rfl, hs, r3, by simp only [upd_self], r5, r6, r7, fun h0 => ⟨(r8 h0).1, ?_⟩, r9, fun i j k hi hj => (r10 i j k hi hj).mono hsame.1.stay⟩
                    simp only [(r8 h0).2, h]
                    simp [retag]
                · obtain ⟨q', h1, ⟨s2, h2, h3⟩ | ⟨h2, h3⟩⟩ := hrt b (.inl ⟨s', hb⟩)
                  · exact (hmode q' h1).2 ha b s2 h2
                  · simp only at hb; rw [h3] at hb; cases hb
                · rw [hvx, hvy, hm0]
                  exact run_append_zero hu hi hnc
              · have hq := hdy.ha (by omega)
                have hysl := hry.len
                have hxsl := hrx.len
                have hya : ∀ j u, ys[j]? = some u → w.cell? ((⟨by', oy, none⟩ : Addr).add j) = some u := fun j u h => by rw [add_at]; exact (hys j u h).1
                have hlen : ys.length = m * i.size := by rw [hisz]; exact hysl
                by_cases hroom : n + m ≤ cc
                · -- there is room
                  rcases hrow with ⟨h1, _⟩ | ⟨m', h1, h2, h3, h4 | ⟨bb, cs, e1, h4, h5, h6, h7⟩⟩
                  · omega
                  · omega
                  · subst h1
                    have hfit : n * s.ks.length + m * s.ks.length ≤ cs.size := by
                      have := Nat.mul_le_mul_right s.ks.length hroom
                      rw [Nat.add_mul] at this
                      omega
                    have hrun := run_append_room' (P := P) (w := w) (ty := o.type) hu hi h5 (sLen := n) (sCap := cc) (m := m) (c := cy) hlen hya hry.one hroom (by rw [hisz, hysl]; exact hfit)
                    rw [hisz] at hrun
                    have hxcs : ∀ k, k < n * s.ks.length → cs[k]? = xs[k]? := fun k hk => by
                      have hn0 : 0 < n := by
                        rcases Nat.eq_zero_or_pos n with h | h
                        · rw [h] at hk; simp at hk
                        · exact h
                      have hp' := hpx hn0
                      rw [h4] at hp'
                      cases hp'
                      have := hxs k _ (List.getElem?_eq_getElem (by omega))
                      rw [Nat.zero_add, cell_at h5] at this
                      rw [this, List.getElem?_eq_getElem (by omega)]
                    have hcs' : (cs.toList.take (n * s.ks.length) ++ ys ++ cs.toList.drop (n * s.ks.length + ys.length)).toArray.size = cs.size := by
                      simp
                      omega
                    have hpre : ∀ k, k < n * s.ks.length → (cs.toList.take (n * s.ks.length) ++ ys ++ cs.toList.drop (n * s.ks.length + ys.length)).toArray[k]? = cs[k]? := fun k hk => by
                      simp only [List.getElem?_toArray, List.append_assoc]
                      rw [List.getElem?_append_left (by simp; omega), List.getElem?_take_of_lt hk, Array.getElem?_toList]
                    obtain ⟨ht, hrel⟩ := app_place (arr := arr) (n := n) (q := m) (z := s.ks.length) (c := cc) hr hf1 hf2 hf3 (hwp _ rfl) h5 h7 h6 hroom hcs' hpre
                    have hrows := (hrx.append hry).mono ht.stay
                    have hall : ∀ k, k < (n + m) * s.ks.length → (cs.toList.take (n * s.ks.length) ++ ys ++ cs.toList.drop (n * s.ks.length + ys.length)).toArray[k]? = (xs ++ ys)[k]? := fun k hk => by
                      by_cases hk2 : k < n * s.ks.length
                      · rw [hpre k hk2, hxcs k hk2, List.getElem?_append_left (by omega)]
                      · rw [Nat.add_mul] at hk
                        simp only [List.getElem?_toArray, List.append_assoc]
                        rw [List.getElem?_append_right (by simp; omega), List.getElem?_append_left (by simp; omega), List.getElem?_append_right (by omega)]
                        simp only [List.length_take, Array.length_toList]
                        congr 1
                        omega
                    rw [h4] at hvx
                    refine does_value hrel (app_rv (v := .slice (some ⟨bb, 0, none⟩) (n + m) cc) hs ⟨_, _, _, rfl⟩ hkn (by simp only [upd_self]) (fun ha => ⟨?_, fun b hb => ?_⟩) (fun ha => ⟨?_, fun b s' hb => ?_⟩)) (hexec (by rw [hvx, hvy, hq]; exact hrun))
                    · refine rl_of_rows hs hrows (setRow_hp h5) hall (fun k hk hw => ?_) hroom (by omega)
                      subst ha
                      rcases hw with hw | hw
                      · have := hr.xown bb k hw
                        rcases h7 with ⟨h7, _⟩ | ⟨h7, _⟩ <;> rw [h7] at this <;> cases this
                      · simp only [if_true, mkTk] at hw
                        have hw : (n + m) * s.ks.length ≤ k := hw
                        omega
                    · subst ha
                      simp only at hb
                      split at hb
                      · simp [mkTk] at hb
                      · exact hun b (.inr hb)
                    · subst ha
                      exact row_of_rows hs hrows (setRow_hp h5) hall (by simp [mkTk]) (by simp only [upd_self]) hroom (by omega)
                    · subst ha
                      simp only at hb
                      split at hb
                      · simp [mkTk] at hb
                      · exact hun b (.inl ⟨s', hb⟩)
                · -- a new row
                  have hge := grownCap_ge w (n + m) cc e
                  have hrun : (Builtin.append_ #[t, t] o.type #[a.eval x, a.eval y]).run P w = .ok (.slice (some ⟨w.heap.size, 0, none⟩) (n + m) (grownCap w (n + m) cc e)) (w.drew.alloc (.cells (xs.toArray ++ ys.toArray ++ Builtin.zeroCells z.cells (grownCap w (n + m) cc e - (n + m))) e)) := by
                    have hb1 : (n + m) * i.bytes ≤ 140737488355328 := by
                      have := Nat.mul_le_mul (show n + m ≤ 34359738368 by omega) hby
                      omega
                    cases hp : p with
                    | none =>
                      obtain ⟨h1, h2⟩ := hpn hp
                      subst h1
                      subst h2
                      have hx0 : xs = [] := List.eq_nil_of_length_eq_zero (by rw [hxsl]; simp)
                      subst hx0
                      rw [hvx, hvy, hq, hp, Nat.zero_add]
                      have := run_append_nil (P := P) w t o.type e i z hu hi hz ⟨by', oy, none⟩ m cy ys hlen hya (by omega) (by omega) (by rw [Nat.zero_add] at hb1; omega)
                      simpa using this
                    | some ad =>
                      rw [hvx, hvy, hq, hp]
                      refine run_append_grow (P := P) w t o.type e i z hu hi hz ad n cc xs (by rw [hisz]; exact hxsl) (fun j v hj => ?_) ⟨by', oy, none⟩ m cy ys hlen hya (by omega) (by omega) (growslice_fits (by omega) hb1)
                      have hn0 : 0 < n := by
                        rcases Nat.eq_zero_or_pos n with h | h
                        · rw [h] at hxsl
                          have := (List.getElem?_eq_some_iff.1 hj).1
                          omega
                        · exact h
                      have hp' := hpx hn0
                      rw [hp] at hp'
                      cases hp'
                      rw [add_at]
                      exact hxs j v hj
                  have hsz : (xs.toArray ++ ys.toArray ++ Builtin.zeroCells z.cells (grownCap w (n + m) cc e - (n + m))).size = grownCap w (n + m) cc e * s.ks.length := by
                    simp only [Array.size_append, List.size_toArray, size_zeroCells, hzc, hxsl, hysl, ← Nat.add_mul]
                    congr 1
                    omega
                  obtain ⟨ht, hrel⟩ := app_grow (was := was) (arr := arr) (N := n + m) (c := grownCap w (n + m) cc e) (z := s.ks.length) (e := e) (cs := xs.toArray ++ ys.toArray ++ Builtin.zeroCells z.cells (grownCap w (n + m) cc e - (n + m))) hr hf1 hf2 hf3 hwp (by omega) hge
                  have hrows := (hrx.append hry).mono ht.stay
                  have hnew : (w.drew.alloc (.cells (xs.toArray ++ ys.toArray ++ Builtin.zeroCells z.cells (grownCap w (n + m) cc e - (n + m))) e)).heap[w.heap.size]? = some (.cells (xs.toArray ++ ys.toArray ++ Builtin.zeroCells z.cells (grownCap w (n + m) cc e - (n + m))) e (0, 0)) := heap_alloc_new w.drew _
                  have hall : ∀ k, k < (n + m) * s.ks.length → (xs.toArray ++ ys.toArray ++ Builtin.zeroCells z.cells (grownCap w (n + m) cc e - (n + m)))[k]? = (xs ++ ys)[k]? := fun k hk => by
                    rw [Array.getElem?_append_left (by simp only [Array.size_append, List.size_toArray, hxsl, hysl, ← Nat.add_mul]; exact hk)]
                    rw [List.append_toArray, List.getElem?_toArray]
                  refine does_value hrel (app_rv (v := .slice (some ⟨w.heap.size, 0, none⟩) (n + m) (grownCap w (n + m) cc e)) hs ⟨_, _, _, rfl⟩ hkn (by simp only [upd_self]) (fun ha => ⟨?_, fun b hb => ?_⟩) (fun ha => ⟨?_, fun b s' hb => ?_⟩)) (hexec hrun)
                  · refine rl_of_rows hs hrows hnew hall (fun k hk hw => ?_) hge (by omega)
                    subst ha
                    rcases hw with hw | hw
                    · have h1 := hr.xlt _ _ hw
                      have h2 := hr.fr.size
                      omega
                    · simp only [if_true, mkTk] at hw
                      have hw : (n + m) * s.ks.length ≤ k := hw
                      omega
                  · subst ha
                    simp only at hb
                    split at hb
                    · simp [mkTk] at hb
                    · exact hun b (.inr hb)
                  · subst ha
                    exact row_of_rows hs hrows hnew hall (by simp [mkTk]) (by simp only [upd_self]) hge (by omega)
                  · subst ha
                    simp only at hb
                    split at hb
                    · simp [mkTk] at hb
                    · exact hun b (.inl ⟨s', hb⟩)
            split at hcore
            · simp only [Option.some.injEq, Prod.mk.injEq] at hcore
              obtain ⟨hbb, rfl⟩ := hcore
              rw [← hbb, decide_eq_true_eq] at hb
              have := key none (fc.arrs.contains nd) (.inl ⟨rfl, rfl⟩) (fun h => by cases h) (fun q hq => by cases hq) hb
              unfold apMk
              exact this
            · split at hcore
              · cases hcore
              · rename_i hna
                simp only [Option.some.injEq, Prod.mk.injEq] at hcore
                obtain ⟨hbb, rfl⟩ := hcore
                rw [← hbb, decide_eq_true_eq] at hb
                exact key none false (.inr (.inl ⟨rfl, rfl⟩)) (fun _ => rfl) (fun q hq => by cases hq) hb
            · rename_i m
              split at hcore
              · rename_i hl
                simp only [Bool.and_eq_true] at hl
                simp only [Option.some.injEq, Prod.mk.injEq] at hcore
                obtain ⟨hbb, rfl⟩ := hcore
                rw [← hbb, decide_eq_true_eq] at hb
                exact key (some m) false (.inr (.inr (.inl ⟨m, rfl, useTk_live hl.1, rfl, rfl⟩))) (fun h => by cases h) (fun q hq => by cases hq; exact useTk_prot hl.1) hb
              · cases hcore
            · rename_i m
              split at hcore
              · rename_i hl
                simp only [Bool.and_eq_true] at hl
                simp only [Option.some.injEq, Prod.mk.injEq] at hcore
                obtain ⟨hbb, rfl⟩ := hcore
                rw [← hbb, decide_eq_true_eq] at hb
                exact key (some m) true (.inr (.inr (.inr ⟨m, rfl, useTk_live hl.1, rfl, rfl⟩))) (fun h => by cases h) (fun q hq => by cases hq; exact useTk_prot hl.1) hb
              · cases hcore
            · cases hcore
          · cases hcore
        · cases hcore
      · cases hcore
    · cases hcore
  · cases hcore
end
end Go.Proofs.Ytkimdfpmblhapaa.Va

/- The single operations, one by one: cuts of rows, maps. -/
set_option linter.unusedVariables false
set_option linter.unusedSimpArgs false
namespace Go.Proofs.Ytkimdfpmblhapaa.Va
open Go.RowKit

section
variable {P : Program} {X : Nat → Nat → Prop} {w0 : World} {g0 g g' : Gho} {st st' : St} {a : Act} {w w' : World} {fc : FCfg} {o : Oper} {b : Bool} {out : Out}

/-- A row that is cut at its end gets another mark. -/
theorem app_cut (hr : Rel P X w0 g0 g st a w) {m now : Nat} {p : Option Addr} {n c h z : Nat} (hnow : now < st.tk.length) (hfree : st.tk.getD now none = none) (hnp : now ∉ st.protT) (hwp : m ∉ st.protT)
    (hl : liveTk st m = true) (hrho : g.rho m = (.slice p n c, z)) (hnt : ∀ b s, g.own b ≠ .tl m s) (hh : h ≤ n) (h0 : 0 < n → ∃ b, g.own b = .rw m) :
    To P X g st w { g with rho := upd g.rho now (.slice p h c, z), own := fun b => retag (some m) now (g.own b) } (HE.on st (.app (some m) now)) w ∧ Rel P X w0 g0 { g with rho := upd g.rho now (.slice p h c, z), own := fun b => retag (some m) now (g.own b) } (HE.on st (.app (some m) now)) a w := by
  have hdat : ∀ b, retag (some m) now (g.own b) ≠ .dat → g.own b ≠ .dat := fun b h e => h (by rw [e]; rfl)
  have hno : ∀ b, ¬ (g.own b).isTk now := fun b hb => by
    have := liveTk_iff.1 (hr.tkl b _ hb)
    rw [hfree] at this
    cases this
  refine hr.app hnow hfree hnp (fun q hq => by cases hq; exact hwp) (fun b => ?_) (fun b o v hc hw => ⟨hc, fun hx => hw ?_⟩) (fun _ _ _ => rfl) (Nat.le_refl _) rfl rfl rfl ?_ (fun b m' s hb hwas hs => by cases hwas; exact absurd hs (hnt b s)) (fun b hb => hr.fr.lt b (hdat b hb))
  · rcases retag_spec (some m) now (g.own b) with h | ⟨h1, ⟨s, _, _, h2⟩ | ⟨_, h2⟩⟩
    · exact .inl h
    · exact .inr ⟨.inl h1, .inr (.inl ⟨s, h2⟩)⟩
    · exact .inr ⟨.inl h1, .inr (.inr h2)⟩
  · rcases hx with hx | hx
    · exact .inl hx
    · exact .inr ((retag_at (some m) now _ o).1 hx)
  · obtain ⟨p', n', c', h1, h2, h3⟩ := hr.toks m hl
    rw [hrho] at h1 h3
    simp only at h1 h3
    cases h1
    refine ⟨p, h, c, by simp only [upd_self], by omega, ?_⟩
    rcases h3 with ⟨h3, h4⟩ | ⟨bb, cs, e, h4, h5, h6, h7⟩
    · have hn0 : n = 0 := by
        rcases Nat.eq_zero_or_pos n with h | h
        · exact h
        · obtain ⟨b, hb⟩ := h0 h
          exact absurd hb (h4 b)
      refine .inl ⟨by omega, fun b hb => ?_⟩
      rcases retag_spec (some m) now (g.own b) with h | ⟨_, ⟨s, _, _, h2⟩ | ⟨h2, _⟩⟩
      · simp only at hb; rw [h.1] at hb; exact hno b (.inr hb)
      · simp only at hb; rw [h2] at hb; cases hb
      · exact h4 b h2
    · refine .inr ⟨bb, cs, e, h4, h5, by simp only [upd_self]; exact h6, .inr ?_⟩
      rcases h7 with h7 | h7
      · exact absurd h7 (hnt bb _)
      · simp only [h7]; simp [retag]
theorem op_slice' {t : TypeId} {x : Operand} {lo hi mx : Option Operand} (ho : o.op = .slice t x lo hi mx) (hcore : core P fc o st = some (b, out)) (hb : b = true) (hr : Rel P X w0 g0 g st a w) : Does P X w0 g0 o (st.out o.dst out) a w := by
  by_cases harr : ∃ m d e, st.ev x = .dt ⟨false, [.sl e]⟩ d [.arr m]
  · obtain ⟨m, d, e', he⟩ := harr
    unfold core at hcore
    rw [ho] at hcore
    simp only [he] at hcore
    have hx := hr.ev x
    rw [he] at hx
    split at hcore
    · rename_i h; cases h
    · rename_i e e'' d' ap hu heq
      cases heq
      split at hcore
      · rename_i hee
        simp only [Bool.and_eq_true, decide_eq_true_eq] at hee
        obtain ⟨rfl, hsi⟩ := hee
        obtain ⟨s, hs⟩ := Option.isSome_iff_exists.1 hsi
        have hsh := (shp_sh hs).1
        split at hcore
        · rename_i k1 l k2 h hl hh
          split at hcore
          · split at hcore
            · rename_i q hq
              cases hq
              split at hcore
              · rename_i nd hd
                split at hcore
                · rename_i hcond
                  simp only [Bool.and_eq_true, Option.isNone_iff_eq_none] at hcond
                  obtain ⟨⟨hlv, hfree⟩, rfl⟩ := hcond
                  have hwp := useTk_prot hlv
                  have hlv := useTk_live hlv
                  obtain ⟨hf1, hf2, hf3⟩ := freeTk_spec hfree
                  simp only [Option.some.injEq, Prod.mk.injEq] at hcore
                  obtain ⟨hbb, rfl⟩ := hcore
                  rw [← hbb] at hb
                  simp only [Bool.and_eq_true, decide_eq_true_eq] at hb
                  obtain ⟨q1, q2⟩ := hb
                  have hra := (one_cell hx).2
                  obtain ⟨hnt, e1, s1, p, n, c, b', o', u, r1, r2, r3, r4, r5, r6, r7, r8, r9, r10⟩ := hra.2 hlv
                  cases r1
                  rw [hs] at r2
                  cases r2
                  rw [r3] at r4
                  obtain ⟨ht, hrel⟩ := app_cut (h := h.toInt.toNat) hr hf1 hf2 hf3 hwp hlv r4 hnt (by omega) (fun h0 => ⟨b', (r8 h0).2⟩)
                  refine does_value (v := .slice p h.toInt.toNat c) hrel (app_rv (arr := true) hs ⟨_, _, _, rfl⟩ (known_app hf1) (by simp only [upd_self]) (fun h => by cases h) (fun _ => ⟨?_, fun b s' hb => ?_⟩)) ?_
                  · refine ⟨e, s, p, h.toInt.toNat, c, b', o', u, rfl, hs, rfl, by simp only [upd_self], ?_, by omega, by omega, fun h0 => ⟨(r8 (by omega)).1, ?_⟩, fun i j hi hj => r9 i j (by omega) hj, fun i j k hi hj => ?_⟩
                    · show (d.toL.take h.toInt.toNat).length = _
                      rw [List.length_take]
                      omega
                    · simp only [(r8 (by omega)).2]
                      simp [retag]
                    · have hg : (D.sl (d.toL.take h.toInt.toNat)).toL.getD i (.int 0) = d.toL.getD i (.int 0) := by
                        show (d.toL.take h.toInt.toNat).getD i (.int 0) = _
                        simp only [List.getD_eq_getElem?_getD]
                        rw [List.getElem?_take_of_lt hi]
                      rw [hg]
                      exact (r10 i j k (by omega) hj).mono ht.stay
                  · rcases retag_spec (some m) (st.tb + nd) (g.own b) with h | ⟨h1, ⟨s2, _, h2, _⟩ | ⟨_, h2⟩⟩
                    · simp only at hb
                      rw [h.1] at hb
                      have := liveTk_iff.1 (hr.tkl b _ (.inl ⟨s', hb⟩))
                      rw [hf2] at this
                      cases this
                    · exact hnt b s2 h2
                    · simp only at hb; rw [h2] at hb; cases hb
                  · have hbs : (Instr.sliceBounds true n c (none : Option Value) (hi.map a.eval) none).run P w = .ok (0, h.toInt.toNat, c) w := by
                      have := sliceBounds_run (P := P) (w := w) (isS := true) (len := n) (cap := c) (lo := none) (hi := hi.map a.eval) (mx := none) (l := 0) (h := h.toInt) (m := c) (k1 := .i64) (k2 := k2) (k3 := .i64)
                        (.inr ⟨rfl, rfl⟩)
                        (by rcases bound_val hr hh with ⟨y, rfl, hy⟩ | ⟨rfl, hy⟩
                            · exact .inl (by simp [hy])
                            · exact .inr ⟨rfl, by rw [hy, r5], rfl⟩) (.inr ⟨rfl, rfl⟩) (Int.le_refl _) q1 (by omega) (by omega)
                      simpa using this
                    have ha0 : p.map (fun x => x.add (0 * s.ks.length)) = p := by cases p <;> simp [Addr.add]
                    simp only [execOp, ho, Instr.sliceAt, Instr.slice, r3, Sem.run_bind, run_underlying hu, Result.andThen_ok, Option.map_none, hbs, run_sizeOf' hsh, Sem.run_pure, ha0, Nat.sub_zero, ite_self]
                · cases hcore
              · cases hcore
            · rename_i hna
              exact absurd rfl (hna m)
          · split at hcore
            · split at hcore
              · rename_i hda
                simp [dataAp] at hda
              · cases hcore
            · cases hcore
        · cases hcore
      · cases hcore
    · cases hcore
  · exact op_slice ho hcore hb hr (fun m d e h => harr ⟨m, d, e, h⟩)

/-! Maps. -/
theorem RC.ro {s : Sh} {d : D} {aps : List Ap} {cs : List Value} (h : RC P X g st w s d aps cs) (hd : ∀ j, j < s.ks.length → dataAp (aps.getD j .dead) = true) : RC P X g st w s d (roAps s.ks) cs :=
  ⟨h.len, roAps_length _, fun j k hj => by
    have hjl : j < s.ks.length := (List.getElem?_eq_some_iff.1 hj).1
    rw [roAps_getD _ _ hjl]
    exact ⟨(h.at_ j k hj).1, data_rl (hd j hjl) (h.at_ j k hj)⟩⟩
/-- The descriptor of a key's kind. -/
def descOf : LK → TypeDesc
  | .int k => .int k
  | _ => .string
theorem key_desc {kt : TypeId} {k : LK} (h : shp P kt = some ⟨false, [k]⟩) (hk : keyK k = true) : P.underlying kt = some (descOf k) := by
  obtain ⟨h1, _⟩ := shp_sh h
  unfold sh at h1
  split at h1
  · rename_i ks hks
    split at h1
    · simp only [Option.some.injEq, Sh.mk.injEq] at h1
      obtain ⟨ha, rfl⟩ := h1
      cases hu : P.underlying kt with
      | none => simp [kinds, hu] at hks
      | some u =>
        cases u <;> simp [kinds, hu] at hks <;> first
          | (subst hks; first | rfl | cases hk)
          | (simp [aggT, hu] at ha; done)
    · cases h1
  · cases h1
theorem beq_bytes (a b : ByteArray) : (a == b) = decide (a = b) := by
  cases a; cases b
  rw [Bool.eq_iff_iff]
  show ByteArray.beq _ _ = true ↔ _
  simp [ByteArray.beq]
theorem key_same {k : LK} {W : Nat → Nat → Prop} {x p : D} {vx vp : Value} (hk : keyK k = true) (h1 : RL P w W k x vx) (h2 : RL P w W k p vp) : Instr.sameNow (descOf k) vx vp = some (keyEq k x p) := by
  cases h1 with
  | int k d =>
    cases h2
    simp only [Instr.sameNow, descOf, keyEq, if_true]
    congr 1
  | str d =>
    cases h2
    simp only [Instr.sameNow, descOf, keyEq]
    congr 1
    exact beq_bytes _ _
  | bool d => cases hk
  | x d v => cases hk
  | nil e d h => cases hk
  | sl => cases hk
/-- The pairs of a map, list by list. -/
structure MapL (P : Program) (X : Nat → Nat → Prop) (g : Gho) (st : St) (w : World) (k : LK) (sv : Sh) (es : List MapEntry) (ds : List D) : Prop where
  len : es.length = ds.length
  key : ∀ (i : Nat) (e : MapEntry) (p : D), es[i]? = some e → ds[i]? = some p → RL P w (Wr X g) k (p.cell 0) e.key
  val : ∀ (i : Nat) (e : MapEntry) (p : D), es[i]? = some e → ds[i]? = some p → isAggV e.val = sv.agg ∧ RC P X g st w sv (p.cell 1) (roAps sv.ks) e.val.cells.toList
theorem MapL.tail {k : LK} {sv : Sh} {e : MapEntry} {p : D} {es : List MapEntry} {ds : List D} (h : MapL P X g st w k sv (e :: es) (p :: ds)) : MapL P X g st w k sv es ds :=
  ⟨by have := h.len; simpa using this, fun i e' p' he hp => h.key (i + 1) e' p' (by simpa using he) (by simpa using hp), fun i e' p' he hp => h.val (i + 1) e' p' (by simpa using he) (by simpa using hp)⟩
theorem find_spec {k : LK} {sv : Sh} {x : D} {vx : Value} (hk : keyK k = true) (hx : RL P w (Wr X g) k x vx) (z : D) : ∀ (es : List MapEntry) (ds : List D) (i0 : Nat), MapL P X g st w k sv es ds →
    (mhas k x ds = false ∧ Instr.findNow (descOf k) vx es i0 = some none ∧ mget k z x ds = z ∧ ∀ v, mput k x v ds = ds ++ [.agg [x, v]]) ∨
    (mhas k x ds = true ∧ ∃ i e p, es[i]? = some e ∧ ds[i]? = some p ∧ Instr.findNow (descOf k) vx es i0 = some (some (i0 + i, e.val)) ∧ mget k z x ds = p.cell 1 ∧ keyEq k x (p.cell 0) = true ∧ ∀ v, mput k x v ds = ds.set i (.agg [x, v]))
  | [], [], i0, h => .inl ⟨rfl, rfl, rfl, fun _ => rfl⟩
  | [], _ :: _, _, h => by have := h.len; simp at this
  | _ :: _, [], _, h => by have := h.len; simp at this
  | e :: es, p :: ds, i0, h => by
    have hs := key_same hk hx (h.key 0 e p rfl rfl)
    cases hq : keyEq k x (p.cell 0) with
    | true =>
      refine .inr ⟨by simp [mhas, hq], 0, e, p, rfl, rfl, ?_, by simp [mget, hq], hq, fun v => by simp [mput, hq]⟩
      simp only [Instr.findNow, hs, hq, Nat.add_zero]
    | false =>
      rcases find_spec hk hx z es ds (i0 + 1) h.tail with ⟨h1, h2, h3, h4⟩ | ⟨h1, i, e', p', h2, h3, h4, h5, h6, h7⟩
      · refine .inl ⟨by simp [mhas, hq, h1], ?_, by simp [mget, hq, h3], fun v => by simp [mput, hq, h4]⟩
        simp only [Instr.findNow, hs, hq, h2]
      · refine .inr ⟨by simp [mhas, hq, h1], i + 1, e', p', by simpa using h2, by simpa using h3, ?_, by simp [mget, hq, h5], h6, fun v => by simp [mput, hq, h7]⟩
        simp only [Instr.findNow, hs, hq, h4]
        rw [show i0 + 1 + i = i0 + (i + 1) from by omega]
theorem checkKey_run {kt : TypeId} {k : LK} {e : Bool} {v : Value} (hu : P.underlying kt = some (descOf k)) : (Instr.checkKey e 10000 kt v).run P w = .ok () w := by
  unfold Instr.checkKey
  rw [Sem.run_bind, run_underlying hu, Result.andThen_ok]
  cases k <;> simp [descOf]
theorem findKey_run {kt : TypeId} {k : LK} {v : Value} {es : List MapEntry} {r : Option (Nat × Value)} (hu : P.underlying kt = some (descOf k)) (h : Instr.findNow (descOf k) v es 0 = some r) : (Instr.findKey kt v es).run P w = .ok r w := by
  unfold Instr.findKey
  rw [Sem.run_bind, run_underlying hu, Result.andThen_ok]
  simp only [h, Sem.run_pure]
theorem run_getMap {r : Nat} {es : Array MapEntry} {clock : Nat} (h : w.heap[r]? = some (.map es clock)) : (getObj r).run P w = .ok (.map es clock) w := by
  simp [getObj, Sem.run, h]
theorem mapL_of {n : Nat} {kt vt : TypeId} {d : D} (h : RO P X g st w n (.map kt vt d)) {k : LK} {sv : Sh} (h1 : shp P kt = some ⟨false, [k]⟩) (h2 : shp P vt = some sv) : ∃ es clock, w.heap[g.mu n]? = some (.map es clock) ∧ MapL P X g st w k sv es.toList d.toL := by
  obtain ⟨es, clock, k', sv', h3, h4, h5, h6, h7, h8⟩ := h
  rw [h1] at h5
  cases h5
  rw [h2] at h6
  cases h6
  refine ⟨es, clock, h3, by simpa using h7, fun i e p he hp => ?_, fun i e p he hp => ?_⟩
  · obtain ⟨q, hq, h9, _⟩ := h8 i p hp
    rw [Array.getElem?_toList, hq] at he
    cases he
    exact h9
  · obtain ⟨q, hq, _, h9, h10⟩ := h8 i p hp
    rw [Array.getElem?_toList, hq] at he
    cases he
    exact ⟨h9, h10⟩
theorem op_makeMap {t : TypeId} {r : Option Operand} (ho : o.op = .makeMap t r) (hcore : core P fc o st = some (b, out)) (hr : Rel P X w0 g0 g st a w) : Does P X w0 g0 o (st.out o.dst out) a w := by
  unfold core at hcore
  rw [ho] at hcore
  simp only at hcore
  split at hcore
  · rename_i kt vt n hu hd
    split at hcore
    · rename_i kk sv hk hv
      split at hcore
      · rename_i hc
        simp only [Bool.and_eq_true, decide_eq_true_eq, Option.isNone_iff_eq_none] at hc
        obtain ⟨⟨⟨⟨hkk, rfl⟩, h3⟩, h4⟩, h5⟩ := hc
        simp only [Option.some.injEq, Prod.mk.injEq] at hcore
        obtain ⟨_, rfl⟩ := hcore
        have hx : RO P X (g.new (st.nb + n) w.heap.size) { st with hp := st.hp.set (st.nb + n) (some (.map kt vt (.sl []))) } (w.alloc (.map #[] 0)) (st.nb + n) (.map kt vt (.sl [])) := by
          refine ⟨#[], 0, kk, sv, ?_, ?_, hk, hv, rfl, fun i p hp => by simp [D.toL] at hp⟩
          · simp only [Gho.new, upd_self]
            exact heap_alloc_new w _
          · simp only [Gho.new, upd_self]
        refine does_value (v := .map (some w.heap.size)) (hr.newOb (Nat.le_add_right _ _) (by simpa using h5) h3 h4 hx) (mk_x ?_) ?_
        · have := RX.mp (g := g.new (st.nb + n) w.heap.size) (ok := ({ st with hp := st.hp.set (st.nb + n) (some (.map kt vt (.sl []))) } : St).has) (st.nb + n) (by rw [has_set, if_pos ⟨rfl, h4⟩]; rfl)
          simp only [Gho.new, upd_self] at this
          exact this
        · simp only [execOp, ho, Instr.makeMap, Option.map_none, Sem.run_bind, Sem.run_pure, Result.andThen_ok]
          rfl
      · cases hcore
    · cases hcore
  · cases hcore
theorem op_lookup {t : TypeId} {x i : Operand} {ok : Bool} (ho : o.op = .lookup t x i ok) (hcore : core P fc o st = some (b, out)) (hr : Rel P X w0 g0 g st a w) : Does P X w0 g0 o (st.out o.dst out) a w := by
  unfold core at hcore
  rw [ho] at hcore
  simp only at hcore
  have hx := hr.ev x
  have hi := hr.ev i
  split at hcore
  · rename_i kt vt d n kk di hu he hei
    rw [he] at hx
    rw [hei] at hi
    have hp := rv_x hx
    split at hcore
    · rename_i k' v' dm s sv hob hk hv
      split at hcore
      · rename_i z hz
        split at hcore
        · rename_i hc
          simp only [Bool.and_eq_true, decide_eq_true_eq] at hc
          obtain ⟨⟨⟨rfl, rfl⟩, rfl⟩, hkk⟩ := hc
          obtain ⟨_, rfl⟩ := out_val hcore
          obtain ⟨es, clock, h1, hml⟩ := mapL_of (hr.objs n _ hob) hk hv
          have hdesc := key_desc hk hkk
          have hkey := (one_cell hi).2
          generalize hxv : a.eval x = u at hp
          cases hp with
          | mp _ hn =>
            obtain ⟨zv, hzrun, hzag, _, hzrc, _⟩ := zeroD_spec (X := X) (g := g) (st := st) (w := w) (shp_sh hv).1 hz
            have hzro := hzrc.ro (zeroD_data (shp_sh hv).2 hz)
            have main : ∃ u : Value, (∃ r, (Instr.findKey kt (a.eval i) es.toList).run P w = .ok r w ∧ ((r = none ∧ u = zv ∧ mhas kk di dm.toL = false) ∨ (∃ j, r = some (j, u)) ∧ mhas kk di dm.toL = true)) ∧ RV P X g st w (.dt sv (mget kk z.1 di dm.toL) (roAps sv.ks)) u := by
              rcases find_spec hkk hkey z.1 es.toList dm.toL 0 hml with ⟨h2, h3, h4, _⟩ | ⟨h2, j, e, p, h3, h4, h5, h6, _, _⟩
              · exact ⟨zv, ⟨none, findKey_run hdesc h3, .inl ⟨rfl, rfl, h2⟩⟩, by rw [h4]; exact ⟨hzag, hzro⟩⟩
              · exact ⟨e.val, ⟨_, findKey_run hdesc h5, .inr ⟨⟨_, rfl⟩, h2⟩⟩, by rw [h6]; exact hml.val j e p h3 h4⟩
            obtain ⟨u, ⟨r, hfind, hr2⟩, hrv⟩ := main
            have hrun : (Instr.lookup t (a.eval x) (a.eval i) ok).run P w = .ok (if ok then .tuple #[u, .bool (mhas kk di dm.toL)] else u) w := by
              unfold Instr.lookup
              simp only [Sem.run_bind, run_underlying hu, Result.andThen_ok, hxv, run_getMap h1, Sem.run_pure, checkKey_run hdesc, hfind]
              rcases hr2 with ⟨rfl, rfl, h⟩ | ⟨⟨j, rfl⟩, h⟩
              · simp only [Sem.run_bind, hzrun, Result.andThen_ok, Sem.run_pure, h]
              · simp only [Sem.run_bind, Result.andThen_ok, Sem.run_pure, h]
            cases ok with
            | false =>
              refine does_pure hr hrv ?_
              simp only [execOp, ho, Sem.run_bind, hrun, Result.andThen_ok, Sem.run_pure, Bool.false_eq_true, if_false]
            | true =>
              refine does_pure (v := .tuple #[u, .bool (mhas kk di dm.toL)]) hr ⟨_, rfl, fun j y hy => ?_⟩ ?_
              · match j, hy with
                | 0, hy => simp at hy; subst hy; exact ⟨u, rfl, hrv⟩
                | 1, hy => simp at hy; subst hy; exact ⟨_, rfl, mk_bool (P := P) (X := X) (g := g) (st := st) (w := w) (.bool _)⟩
                | j + 2, hy => simp at hy
              · simp only [execOp, ho, Sem.run_bind, hrun, Result.andThen_ok, Sem.run_pure, if_true]
        · cases hcore
      · cases hcore
    · cases hcore
  · cases hcore
theorem op_mapUpdate {t : TypeId} {x i y : Operand} (ho : o.op = .mapUpdate t x i y) (hcore : core P fc o st = some (b, out)) (hr : Rel P X w0 g0 g st a w) : Does P X w0 g0 o (st.out o.dst out) a w := by
  unfold core at hcore
  rw [ho] at hcore
  simp only at hcore
  have hx := hr.ev x
  have hi := hr.ev i
  split at hcore
  · rename_i kt vt d n kk di hu he hei
    rw [he] at hx
    rw [hei] at hi
    have hp := rv_x hx
    split at hcore
    · rename_i k' v' dm s sv s' dv aps hob hk hv hcy
      split at hcore
      · rename_i hc
        simp only [Bool.and_eq_true, decide_eq_true_eq] at hc
        obtain ⟨⟨⟨⟨⟨⟨rfl, rfl⟩, rfl⟩, hkk⟩, rfl⟩, hda⟩, hnp⟩ := hc
        simp only [Bool.not_eq_true'] at hnp
        simp only [Option.some.injEq, Prod.mk.injEq] at hcore
        obtain ⟨_, rfl⟩ := hcore
        have hyv := cast_rv' hr hcy
        have hlap := hyv.2.lap
        have hyro := hyv.2.ro (fun j hj => data_at hda (by omega))
        obtain ⟨es, clock, h1, hml⟩ := mapL_of (hr.objs n _ hob) hk hv
        have hdesc := key_desc hk hkk
        have hkey := (one_cell hi).2
        have how := obj_own (hr.objs n _ hob)
        generalize hxv : a.eval x = u at hp
        cases hp with
        | mp _ hn =>
          -- what the map is behind it
          have main : ∃ es' clock', (Instr.mapUpdate t (a.eval x) (a.eval i) (a.eval y)).run P w = .ok () { w with heap := w.heap.setIfInBounds (g.mu n) (.map es' clock') } ∧ MapL P X g st w kk s' es'.toList (mput kk di dv dm.toL) := by
            have hlt : g.mu n < w.heap.size := (Array.getElem?_eq_some_iff.1 h1).1
            have hset : ∀ ob, (setObj (g.mu n) ob).run P w = .ok () { w with heap := w.heap.setIfInBounds (g.mu n) ob } := fun ob => by
              simp [setObj, Sem.run, h1]
            rcases find_spec hkk hkey (.int 0) es.toList dm.toL 0 hml with ⟨_, h3, _, h4⟩ | ⟨_, j, e, p, h3, h4, h5, _, h6, h7⟩
            · refine ⟨es.push { key := a.eval i, val := a.eval y, born := clock }, clock + 1, ?_, ?_⟩
              · unfold Instr.mapUpdate
                simp only [Sem.run_bind, run_underlying hu, Result.andThen_ok, hxv, run_getMap h1, checkKey_run hdesc, findKey_run hdesc h3, hset]
              · rw [h4]
                have hl := hml.len
                simp only [Array.length_toList] at hl
                refine ⟨by simp [hl], fun q e p he hp => ?_, fun q e p he hp => ?_⟩ <;>
                · simp only [Array.toList_push] at he
                  by_cases hq : q < es.size
                  · rw [List.getElem?_append_left (by simpa using hq)] at he
                    rw [List.getElem?_append_left (by omega)] at hp
                    first | exact hml.key q e p he hp | exact hml.val q e p he hp
                  · rw [List.getElem?_append_right (by simpa using hq)] at he
                    rw [List.getElem?_append_right (by omega)] at hp
                    have hq0 : q - es.toList.length = 0 := by
                      have := (List.getElem?_eq_some_iff.1 he).1
                      simpa using this
                    have hq1 : q - dm.toL.length = 0 := by
                      have := (List.getElem?_eq_some_iff.1 hp).1
                      simpa using this
                    rw [hq0] at he
                    rw [hq1] at hp
                    simp only [List.getElem?_cons_zero, Option.some.injEq] at he hp
                    subst he
                    subst hp
                    first | exact hkey | exact ⟨hyv.1, hyro⟩
            · have hje : es[j]? = some e := by rw [← Array.getElem?_toList]; exact h3
              have hkeys : ((es[j]?).map (·.key)).getD (a.eval i) = e.key := by rw [hje]; rfl
              have hstay : (Instr.keyThatStays e.key (a.eval i)).run P w = .ok (a.eval i) w := by
                have hsb : Instr.sameBits 10000 e.key (a.eval i) = true := by
                  have hk1 := hml.key j e p h3 h4
                  revert hk1 hkey h6
                  generalize a.eval i = vi
                  generalize e.key = ve
                  intro hkey h6 hk1
                  cases hkey with
                  | int k d =>
                    cases hk1
                    unfold keyEq at h6
                    simp only [decide_eq_true_eq] at h6
                    simp [Instr.sameBits, h6]
                  | str d =>
                    cases hk1
                    unfold keyEq at h6
                    simp only [decide_eq_true_eq] at h6
                    simp only [Instr.sameBits, h6]
                    rw [beq_bytes]
                    exact decide_eq_true rfl
                  | bool d => cases hkk
                  | x d v => cases hkk
                  | nil e d h => cases hkk
                  | sl => cases hkk
                unfold Instr.keyThatStays
                rw [if_pos hsb]
                rfl
              refine ⟨es.modify j fun e => { e with key := a.eval i, val := a.eval y }, clock, ?_, ?_⟩
              · unfold Instr.mapUpdate
                simp only [Sem.run_bind, run_underlying hu, Result.andThen_ok, hxv, run_getMap h1, checkKey_run hdesc, findKey_run hdesc h5, Nat.zero_add, hkeys, hstay, hset]
              · rw [h7]
                have hl := hml.len
                refine ⟨by simpa using hl, fun q e' p' he hp => ?_, fun q e' p' he hp => ?_⟩ <;>
                · simp only [Array.getElem?_toList, Array.getElem?_modify] at he
                  rw [List.getElem?_set] at hp
                  by_cases hq : j = q
                  · subst hq
                    rw [if_pos rfl, hje] at he
                    simp only [Option.map_some, Option.some.injEq] at he
                    rw [if_pos rfl] at hp
                    split at hp
                    · simp only [Option.some.injEq] at hp
                      subst he
                      subst hp
                      first | exact hkey | exact ⟨hyv.1, hyro⟩
                    · cases hp
                  · rw [if_neg hq] at he hp
                    first | exact hml.key q e' p' (by rw [Array.getElem?_toList]; exact he) hp | exact hml.val q e' p' (by rw [Array.getElem?_toList]; exact he) hp
          obtain ⟨es', clock', hrun, hml'⟩ := main
          have hlt : g.mu n < w.heap.size := (Array.getElem?_eq_some_iff.1 h1).1
          refine does_skip (w' := { w with heap := w.heap.setIfInBounds (g.mu n) (.map es' clock') }) (hr.store (by simpa using hnp) hob (by simp) (fun b hb => by simp [Array.getElem?_setIfInBounds_ne (Ne.symm hb)]) rfl rfl rfl (fun ht => ?_)) ?_
          · refine ⟨es', clock', kk, s', by simp [hlt], how, hk, hv, by have := hml'.len; simp only [Array.length_toList] at this; exact this, fun j p hp => ?_⟩
            have hlen := hml'.len
            have hjl : j < (mput kk di dv dm.toL).length := (List.getElem?_eq_some_iff.1 hp).1
            have he : es'.toList[j]? = some (es'.toList[j]'(by omega)) := List.getElem?_eq_getElem (by omega)
            have h2 := hml'.val j _ p he hp
            exact ⟨_, by rw [← Array.getElem?_toList]; exact he, (hml'.key j _ p he hp).mono ht.stay, h2.1, h2.2.to ht⟩
          · simp only [execOp, ho, Sem.run_bind, hrun, Result.andThen_ok, Sem.run_pure]
      · cases hcore
    · cases hcore
  · cases hcore
end
end Go.Proofs.Ytkimdfpmblhapaa.Va

/- All single operations; guards; regions in their order. -/
set_option linter.unusedVariables false
set_option linter.unusedSimpArgs false
namespace Go.Proofs.Ytkimdfpmblhapaa.Va
open Go.RowKit

section
variable {P : Program} {X : Nat → Nat → Prop} {w0 : World} {g0 g g' : Gho} {st st' : St} {a : Act} {w w' : World} {fc : FCfg} {o : Oper} {b : Bool} {out : Out}

theorem core_sound (hcore : core P fc o st = some (b, out)) (hb : b = true) (hr : Rel P X w0 g0 g st a w) : Does P X w0 g0 o (st.out o.dst out) a w := by
  cases ho : o.op with
  | move x =>
    have h := hcore
    unfold core at h
    rw [ho] at h
    obtain ⟨_, rfl⟩ := out_val h
    exact op_move (.inl ho) hr
  | assign x =>
    have h := hcore
    unfold core at h
    rw [ho] at h
    obtain ⟨_, rfl⟩ := out_val h
    exact op_move (.inr ho) hr
  | alloc e => exact op_alloc ho hcore hr
  | box e x => exact op_box ho hcore hr
  | build t ps => exact op_build ho hcore hr
  | buildSlice t n ps => exact op_buildSlice ho hcore hr
  | load t x => exact op_load ho hcore hr
  | store t x y => exact op_store ho hcore hr
  | nilCheck x => exact op_nilCheck ho hcore hr
  | fieldAddr t x f => exact op_fieldAddr ho hcore hr
  | field t x f => exact op_field ho hcore hr
  | indexAddr t x i => exact op_indexAddr ho hcore hb hr
  | index t x i => exact op_index ho hcore hb hr
  | extract x i => exact op_extract ho hcore hr
  | binOp op t x y yt => exact op_binOp ho hcore hb hr
  | unOp op t x => exact op_unOp ho hcore hr
  | convert s d x => exact op_convert ho hcore hr
  | slice t x lo hi mx => exact op_slice' ho hcore hb hr
  | makeMap t r => exact op_makeMap ho hcore hr
  | lookup t x i ok => exact op_lookup ho hcore hr
  | mapUpdate t x i y => exact op_mapUpdate ho hcore hr
  | makeFunc fn first cap =>
    cases fn with
    | func f => exact op_makeFunc ho hcore hr
    | _ => unfold core at hcore; rw [ho] at hcore; cases hcore
  | call c =>
    have h := hcore
    unfold core at h
    rw [ho] at h
    simp only at h
    split at h
    · rename_i x hc ha
      exact op_len ho hc ha hcore hr
    · rename_i x y hc ha
      exact op_append ho hc ha hcore hb hr
    · cases h
  | _ => unfold core at hcore; rw [ho] at hcore; cases hcore

/-- pick. -/
theorem pick_sound {c x y : Operand} (ho : o.op = .pick c x y) {d : D} (hc : st.ev c = .dt ⟨false, [.bool]⟩ d [.ro]) (hr : Rel P X w0 g0 g st a w) :
    Does P X w0 g0 o (if d.toBool = true then st.put o.dst (cast P o.type (st.ev x)) else st.put o.dst (cast P o.type (st.ev y))) a w := by
  have hcv := hr.ev c
  rw [hc] at hcv
  have hcv := rv_bool hcv
  cases hd : d.toBool with
  | true =>
    rw [hd] at hcv
    refine does_value (st1 := st) hr (cast_rv (t := o.type) (hr.ev x)) ?_
    simp only [execOp, ho, hcv, asBool, Sem.run_bind, Sem.run_pure, Result.andThen_ok, if_true]
  | false =>
    rw [hd] at hcv
    refine does_value (st1 := st) hr (cast_rv (t := o.type) (hr.ev y)) ?_
    simp only [execOp, ho, hcv, asBool, Sem.run_bind, Sem.run_pure, Result.andThen_ok, Bool.false_eq_true, if_false]
end
end Go.Proofs.Ytkimdfpmblhapaa.Va

/- Steps, one by one. -/
set_option linter.unusedVariables false
set_option linter.unusedSimpArgs false
namespace Go.Proofs.Ytkimdfpmblhapaa.Va
open Go.RowKit

theorem norm_cases (x : AV) : (∃ d ap, x = .dt ⟨false, [.bool]⟩ d ap) ∨ ((∀ d ap, x ≠ .dt ⟨false, [.bool]⟩ d ap) ∧ norm x = x) := by
  by_cases h : ∃ d ap, x = .dt ⟨false, [.bool]⟩ d ap
  · exact .inl h
  · refine .inr ⟨fun d ap e => h ⟨d, ap, e⟩, ?_⟩
    unfold norm
    split
    · rename_i d ap
      exact absurd ⟨d, ap, rfl⟩ h
    · rfl
theorem norm_norm (x : AV) : norm (norm x) = norm x := by
  rcases norm_cases x with ⟨d, ap, rfl⟩ | ⟨_, h⟩
  · rfl
  · rw [h, h]
def Nrm (st : St) : Prop := ∀ i, norm (st.fr.getD i .undef) = st.fr.getD i .undef
theorem Nrm.put {st : St} (h : Nrm st) (dst : Option Tmp) (v : AV) : Nrm (st.put dst v) := by
  intro i
  cases dst with
  | none => exact h i
  | some d =>
    show norm ((st.fr.set d (norm v)).getD i .undef) = (st.fr.set d (norm v)).getD i .undef
    rw [getD_set]
    split
    · exact norm_norm v
    · exact h i
theorem HE.on_fr (e : HE) (st : St) : (e.on st).fr = st.fr := by
  cases e with
  | none => rfl
  | ob n o => rfl
  | app a n => cases a <;> rfl
theorem Nrm.of_fr {st st' : St} (h : Nrm st) (e : st'.fr = st.fr) : Nrm st' := by
  intro i; rw [e]; exact h i
theorem Nrm.out {st : St} (h : Nrm st) (dst : Option Tmp) (o : Out) : Nrm (st.out dst o) := (h.of_fr (HE.on_fr o.he st)).put _ _
theorem norm_drop (ms : List Nat) (a : AV) (h : norm a = a) : norm (dropAV ms a) = dropAV ms a := by
  cases a with
  | dt s d aps =>
    rcases norm_cases (.dt s d aps) with ⟨d', ap', he⟩ | ⟨hne, _⟩
    · cases he
      injection h with h1 h2 h3
      show AV.dt _ (.bool d.toBool) _ = AV.dt _ d _
      rw [h2]
    · rcases norm_cases (dropAV ms (.dt s d aps)) with ⟨d', ap', he⟩ | ⟨_, h2⟩
      · injection he with h1 h2 h3
        exact absurd (by rw [h1]) (hne d aps)
      · exact h2
  | ep m s d off =>
    show norm (if ms.contains m = true then AV.undef else AV.ep m s d off) = if ms.contains m = true then AV.undef else AV.ep m s d off
    split <;> rfl
  | tup l =>
    show norm (if l.all (dropAV.noMark ms) then AV.tup l else .undef) = if l.all (dropAV.noMark ms) then AV.tup l else .undef
    split <;> rfl
  | _ => exact h
theorem getD_map {α : Type} (f : α → α) (l : List α) (i : Nat) (z : α) (hz : f z = z) : (l.map f).getD i z = f (l.getD i z) := by
  simp only [List.getD_eq_getElem?_getD, List.getElem?_map]
  cases l[i]? with
  | none => simp [hz]
  | some x => rfl
theorem Nrm.dropAll {st : St} (h : Nrm st) (ms : List Nat) : Nrm (dropAll st ms) := by
  unfold Va.dropAll
  split
  · exact h
  · intro i
    show norm ((st.fr.map (dropAV ms)).getD i .undef) = _
    rw [getD_map _ _ _ _ rfl]
    exact norm_drop ms _ (h i)
theorem setMark_fr (st : St) (n j m : Nat) (b : Bool) : (setMark st n j m b).fr = st.fr := rfl
theorem backMarks_fr (l : List Nat) : ∀ (ins : List (Nat × Nat × Bool)) (ms : List Nat) (st : St), (backMarks l ins ms st).fr = st.fr
  | [], ms, st => by unfold backMarks; rfl
  | (p, j, b) :: r, [], st => by unfold backMarks; rfl
  | (p, j, b) :: r, m :: ms, st => by unfold backMarks; rw [backMarks_fr l r]; rfl

section
variable {P : Program} {cfs : FuncId → Nat → FCfg} {fc : FCfg} {env : Env} {ops : List Oper} {o : Oper} {st st' : St} {k : St → Option R}
theorem clBack_nrm {l ms : List Nat} {dst : Option Tmp} {ss : List Sh} {ds : List D} (hn : Nrm st) : Nrm (clBack fc st l ms dst ss ds) := by
  unfold clBack
  refine Nrm.put ?_ _ _
  split
  · exact (hn.dropAll _).of_fr (by rw [backMarks_fr])
  · exact (hn.dropAll _).of_fr (by rw [show ∀ (s : St) (t : List (Option Bool)), ({ s with tk := t } : St).fr = s.fr from fun _ _ => rfl, backMarks_fr])
theorem callee_back {v : Operand} {as : List Operand} {c : Cl} (h : callee P cfs o v as st = some c) (ds : List D) (hn : Nrm st) : Nrm (c.back ds) := by
  unfold callee at h
  split at h
  · split at h
    · simp only at h
      split at h
      · split at h
        · injection h with h
          subst h
          exact clBack_nrm hn
        · cases h
      · cases h
    · cases h
  · cases h
theorem stepO_nrm (h : stepO P cfs fc env o st = some st') (hn : Nrm st) : Nrm st' := by
  unfold stepO at h
  split at h
  · split at h
    · split at h
      · injection h with h; subst h; split <;> exact hn.put _ _
      · cases h
    · split at h
      · split at h
        · rename_i hc
          split at h
          · injection h with h; subst h; exact callee_back hc _ hn
          · cases h
        · cases h
      · split at h
        · split at h
          · injection h with h; subst h; exact hn.out _ _
          · cases h
        · cases h
  · cases h
theorem stepGO_nrm (h : stepGO P cfs fc env ops o st = some st') (hn : Nrm st) : Nrm st' := by
  unfold stepGO at h
  split at h
  · exact stepO_nrm h hn
  · split at h
    · split at h
      · exact stepO_nrm h hn
      · split at h
        · injection h with h; subst h; exact hn.put _ _
        · cases h
    · split at h
      · injection h with h; subst h; exact hn.put _ _
      · cases h
    · cases h
theorem step_bind : step P cfs fc env o st k = (stepO P cfs fc env o st).bind k := by
  unfold step stepO
  split
  · split
    · split
      · simp only [Option.bind_some]
        split <;> rfl
      · rfl
    · split
      · split
        · cases env _ _ _ <;> rfl
        · rfl
      · split
        · split <;> rfl
        · rfl
  · rfl
theorem set_getD {α : Type} (l : List α) (i : Nat) (z : α) : l.set i (l.getD i z) = l := by
  apply List.ext_getElem?
  intro j
  rw [List.getElem?_set]
  split
  · rename_i h
    subst h
    split
    · rename_i h; simp [h]
    · rename_i h; simp at h; simp [h]
  · rfl
theorem guardSet_same {j : Nat} {d : D} {b : Bool} (hn : Nrm st) (hg : guardAV ops j st = .dt ⟨false, [.bool]⟩ d [.ro]) (hb : d.toBool = b) : guardSet ops j b st = st := by
  unfold guardAV at hg
  unfold guardSet
  split
  · rename_i oj hj
    rw [hj] at hg
    simp only at hg
    split
    · rename_i s hs
      rw [hs] at hg
      simp only at hg
      have h := hn s
      rw [hg] at h
      have : AV.dt ⟨false, [.bool]⟩ (.bool b) [.ro] = st.fr.getD s .undef := by rw [hg, ← h, ← hb]; rfl
      rw [this, set_getD]
    · rfl
  · rfl
theorem stepG_bind (hn : Nrm st) : stepG P cfs fc env ops o st k = (stepGO P cfs fc env ops o st).bind k := by
  unfold stepG stepGO
  split
  · exact step_bind
  · rename_i j w _
    split
    · rename_i d hg
      by_cases hd : d.toBool = w
      · rw [if_pos hd, if_pos hd, guardSet_same hn hg hd]; exact step_bind
      · rw [if_neg hd, if_neg hd, guardSet_same (b := !w) hn hg (by cases w <;> cases h : d.toBool <;> simp_all)]
        split <;> rfl
    · split <;> rfl
    · rfl
theorem steps_bind : ∀ (l : List Oper) (st : St) (k : St → Option R), Nrm st → steps P cfs fc env ops l st k = (stepsO P cfs fc env ops l st).bind k
  | [], st, k, hn => rfl
  | o :: r, st, k, hn => by
    unfold steps stepsO
    rw [stepG_bind hn]
    cases h : stepGO P cfs fc env ops o st with
    | none => rfl
    | some st' => exact steps_bind r st' k (stepGO_nrm h hn)
theorem stepsO_nrm : ∀ (l : List Oper) (st st' : St), stepsO P cfs fc env ops l st = some st' → Nrm st → Nrm st'
  | [], st, st', h, hn => by injection h with h; subst h; exact hn
  | o :: r, st, st', h, hn => by
    unfold stepsO at h
    split at h
    · rename_i h1; exact stepsO_nrm r _ _ h (stepGO_nrm h1 hn)
    · cases h
end
end Go.Proofs.Ytkimdfpmblhapaa.Va

/- A step with its guard; a region in its order. -/
set_option linter.unusedVariables false
set_option linter.unusedSimpArgs false
namespace Go.Proofs.Ytkimdfpmblhapaa.Va
open Go.RowKit

/-- Calls go as the functions' numbers say. -/
def CallOk (P : Program) (cfs : FuncId → Nat → FCfg) (env : Env) : Prop :=
  ∀ (o : Oper) (v : Operand) (as : List Operand) (c : Cl) (r : R) (st : St) (X : Nat → Nat → Prop) (w0 : World) (g0 g : Gho) (a : Act) (w : World),
    isCall o.op = some (v, as) → callee P cfs o v as st = some c → env c.f c.args c.obs = some r → Rel P X w0 g0 g st a w → Does P X w0 g0 o (c.back r.2) a w
section
variable {P : Program} {cfs : FuncId → Nat → FCfg} {fc : FCfg} {env : Env} {X : Nat → Nat → Prop} {w0 : World} {g0 g : Gho} {st st' : St} {a : Act} {w : World} {o : Oper} {ops : List Oper}
theorem stepO_sound (henv : CallOk P cfs env) (h : stepO P cfs fc env o st = some st') (hr : Rel P X w0 g0 g st a w) : Does P X w0 g0 o st' a w := by
  unfold stepO at h
  split at h
  · split at h
    · rename_i c x y hp
      have ho : o.op = .pick c x y := by
        unfold isPick at hp
        split at hp
        · injection hp with hp; injection hp with h1 h2; injection h2 with h2 h3; subst h1; subst h2; subst h3; assumption
        · cases hp
      split at h
      · rename_i d hc
        injection h with h
        subst h
        exact pick_sound ho hc hr
      · cases h
    · split at h
      · rename_i v as hcall
        split at h
        · rename_i c hc
          split at h
          · rename_i r hr'
            injection h with h
            subst h
            exact henv o v as c r st X w0 g0 g a w hcall hc hr' hr
          · cases h
        · cases h
      · split at h
        · rename_i b out hcore
          split at h
          · rename_i hb
            injection h with h
            subst h
            exact core_sound hcore hb hr
          · cases h
        · cases h
  · cases h
theorem stepGO_sound (henv : CallOk P cfs env) (h : stepGO P cfs fc env ops o st = some st') (hr : Rel P X w0 g0 g st a w) (K : Act → World → Prop) (Q : Exit → Act → World → Prop)
    (hK : ∀ g' a' w', Rel P X w0 g0 g' st' a' w' → K a' w') : if Region.wanted o (yielded ops.toArray a.tmps) then o.wp P a w K Q else K (a.put o.dst undef) w := by
  unfold stepGO at h
  split at h
  · rename_i hg
    simp only [Region.wanted, hg, if_true]
    exact stepO_sound henv h hr K Q hK
  · rename_i j wt hg
    have hw : ∀ s, ((ops[j]?).bind (·.dst)) = some s → s < st.fr.length → ∀ v, a.tmps.getD s undef = v → Region.wanted o (yielded ops.toArray a.tmps) = (match v with | .bool b => b == wt | _ => false) := by
      intro s hs hlt v hv
      have hlt' : s < a.tmps.size := by rw [hr.siz]; exact hlt
      have hv' : a.tmps[s]? = some v := by rw [← hv]; simp [hlt']
      unfold Region.wanted
      rw [hg]
      simp only [yielded, List.getElem?_toArray, hs, Option.bind_some, hv']
      cases v <;> simp
    have hgv : ∀ x, guardAV ops j st = x → x ≠ .undef → ∃ s, ((ops[j]?).bind (·.dst)) = some s ∧ s < st.fr.length ∧ st.fr.getD s .undef = x := by
      intro x hx hne
      unfold guardAV at hx
      split at hx
      · rename_i oj hj
        split at hx
        · rename_i s hs
          refine ⟨s, by rw [hj]; exact hs, ?_, hx⟩
          rcases Nat.lt_or_ge s st.fr.length with hl | hl
          · exact hl
          · exfalso
            apply hne
            rw [← hx]
            simp [List.getElem?_eq_none hl]
        · exact absurd hx.symm hne
      · exact absurd hx.symm hne
    split at h
    · rename_i d hd
      obtain ⟨s, hs, hlt, hsv⟩ := hgv _ hd (by simp)
      have hv := hr.slot s
      rw [hsv] at hv
      have hwt := hw s hs hlt _ (rv_bool hv)
      simp only at hwt
      by_cases hdw : d.toBool = wt
      · rw [if_pos hdw] at h
        rw [hwt, hdw, if_pos (by simp)]
        exact stepO_sound henv h hr K Q hK
      · rw [if_neg hdw] at h
        rw [hwt, if_neg (by simpa using hdw)]
        split at h
        · injection h with h
          subst h
          exact hK g _ _ (hr.put o.dst (x := .no) rfl)
        · cases h
    · rename_i hd
      obtain ⟨s, hs, hlt, hsv⟩ := hgv _ hd (by simp)
      have hv := hr.slot s
      rw [hsv] at hv
      have hwt := hw s hs hlt _ hv
      simp only [undef] at hwt
      rw [hwt, if_neg (by simp)]
      split at h
      · injection h with h
        subst h
        exact hK g _ _ (hr.put o.dst (x := .no) rfl)
      · cases h
    · cases h
theorem stepsO_list (henv : CallOk P cfs env) {Q : Exit → Act → World → Prop} : ∀ (l : List Oper) (st st' : St) (g : Gho) (a : Act) (w : World), stepsO P cfs fc env ops l st = some st' → Rel P X w0 g0 g st a w →
    (∀ g' a' w', Rel P X w0 g0 g' st' a' w' → Q .normal a' w') → wpList P ops.toArray Q l a w
  | [], st, st', g, a, w, h, hr, hK => by
    injection h with h
    subst h
    exact hK g a w hr
  | o :: r, st, st', g, a, w, h, hr, hK => by
    unfold stepsO at h
    split at h
    · rename_i st1 h1
      exact wpList_step fun K hK' => stepGO_sound henv h1 hr K Q fun g' a' w' hr' => hK' _ _ (stepsO_list henv r st1 st' g' a' w' h hr' hK)
    · cases h
end
end Go.Proofs.Ytkimdfpmblhapaa.Va

/- What steps leave alone. -/
set_option linter.unusedVariables false
set_option linter.unusedSimpArgs false
namespace Go.Proofs.Ytkimdfpmblhapaa.Va
open Go.RowKit

structure Same (st st' : St) : Prop where
  nb : st'.nb = st.nb
  tb : st'.tb = st.tb
  fr : st'.fr.length = st.fr.length
  hp : st'.hp.length = st.hp.length
  tk : st'.tk.length = st.tk.length
  prot : st'.prot = st.prot
  protM : st'.protM = st.protM
  protS : st'.protS = st.protS
  protT : st'.protT = st.protT
theorem Same.refl (st : St) : Same st st := ⟨rfl, rfl, rfl, rfl, rfl, rfl, rfl, rfl, rfl⟩
theorem Same.trans {a b c : St} (h : Same a b) (k : Same b c) : Same a c :=
  ⟨k.nb.trans h.nb, k.tb.trans h.tb, k.fr.trans h.fr, k.hp.trans h.hp, k.tk.trans h.tk, k.prot.trans h.prot, k.protM.trans h.protM, k.protS.trans h.protS, k.protT.trans h.protT⟩
theorem Same.put (st : St) (dst : Option Tmp) (v : AV) : Same st (st.put dst v) := by
  cases dst with
  | none => exact .refl _
  | some d => exact ⟨rfl, rfl, by simp [St.put], rfl, rfl, rfl, rfl, rfl, rfl⟩
theorem Same.on (st : St) (e : HE) : Same st (e.on st) := by
  cases e with
  | none => exact .refl _
  | ob n o => exact ⟨rfl, rfl, rfl, by simp [HE.on], rfl, rfl, rfl, rfl, rfl⟩
  | app a n => cases a <;> exact ⟨rfl, rfl, rfl, rfl, by simp [HE.on], rfl, rfl, rfl, rfl⟩
theorem length_kill : ∀ (ms : List Nat) (tk : List (Option Bool)), (dropAll.kill tk ms).length = tk.length
  | [], tk => rfl
  | m :: r, tk => by unfold dropAll.kill; rw [length_kill r]; simp
theorem Same.dropAll (st : St) (ms : List Nat) : Same st (dropAll st ms) := by
  unfold Va.dropAll
  split
  · exact .refl _
  · exact ⟨rfl, rfl, by simp, by simp, length_kill ms st.tk, rfl, rfl, rfl, rfl⟩
theorem length_backObs (ro : List Nat) (ds : List D) : ∀ (l : List Nat) (p k : Nat) (hp : List (Option Ob)), (backObs ro ds l p k hp).length = hp.length
  | [], p, k, hp => by unfold backObs; rfl
  | n :: r, p, k, hp => by
    unfold backObs
    split
    · exact length_backObs ro ds r _ _ _
    · rw [length_backObs ro ds r]; simp
theorem Same.setMark (st : St) (n j m : Nat) (b : Bool) : Same st (setMark st n j m b) := ⟨rfl, rfl, rfl, by simp [Va.setMark], by simp [Va.setMark], rfl, rfl, rfl, rfl⟩
theorem Same.backMarks (l : List Nat) : ∀ (ins : List (Nat × Nat × Bool)) (ms : List Nat) (st : St), Same st (backMarks l ins ms st)
  | [], ms, st => by unfold Va.backMarks; exact .refl _
  | (p, j, b) :: r, [], st => by unfold Va.backMarks; exact .refl _
  | (p, j, b) :: r, m :: ms, st => by unfold Va.backMarks; exact (Same.setMark st _ j m b).trans (Same.backMarks l r ms _)
theorem Same.clBack (fc : FCfg) (st : St) (l ms : List Nat) (dst : Option Tmp) (ss : List Sh) (ds : List D) : Same st (clBack fc st l ms dst ss ds) := by
  unfold Va.clBack
  refine Same.trans ?_ (Same.put _ _ _)
  have h1 := Same.dropAll st ms
  have h2 : Same (Va.dropAll st ms) { (Va.dropAll st ms) with hp := backObs fc.roIn (ds.drop ss.length) l 0 0 (Va.dropAll st ms).hp } := ⟨rfl, rfl, rfl, length_backObs _ _ _ _ _ _, rfl, rfl, rfl, rfl, rfl⟩
  have h3 := (h1.trans h2).trans (Same.backMarks l fc.ins (marksAfter st l st.tk fc.ins) _)
  split
  · exact h3
  · exact h3.trans ⟨rfl, rfl, rfl, rfl, by rw [List.length_set], rfl, rfl, rfl, rfl⟩
section
variable {P : Program} {cfs : FuncId → Nat → FCfg} {fc : FCfg} {env : Env} {X : Nat → Nat → Prop} {w0 : World} {g0 g : Gho} {st st' : St} {a : Act} {w : World} {o : Oper} {ops : List Oper}
theorem callee_same {v : Operand} {as : List Operand} {c : Cl} (h : callee P cfs o v as st = some c) (ds : List D) : Same st (c.back ds) := by
  unfold callee at h
  split at h
  · split at h
    · simp only at h
      split at h
      · split at h
        · injection h with h
          subst h
          exact .clBack _ _ _ _ _ _ _
        · cases h
      · cases h
    · cases h
  · cases h
theorem stepO_same (h : stepO P cfs fc env o st = some st') : Same st st' := by
  unfold stepO at h
  split at h
  · split at h
    · split at h
      · injection h with h; subst h; split <;> exact .put _ _ _
      · cases h
    · split at h
      · split at h
        · rename_i hc
          split at h
          · injection h with h; subst h; exact callee_same hc _
          · cases h
        · cases h
      · split at h
        · split at h
          · injection h with h; subst h; exact (Same.on _ _).trans (.put _ _ _)
          · cases h
        · cases h
  · cases h
theorem stepGO_same (h : stepGO P cfs fc env ops o st = some st') : Same st st' := by
  unfold stepGO at h
  split at h
  · exact stepO_same h
  · split at h
    · split at h
      · exact stepO_same h
      · split at h
        · injection h with h; subst h; exact .put _ _ _
        · cases h
    · split at h
      · injection h with h; subst h; exact .put _ _ _
      · cases h
    · cases h
theorem stepO_may (h : stepO P cfs fc env o st = some st') : mayPut st o.dst = true := by
  unfold stepO at h
  split at h
  · assumption
  · cases h
theorem stepGO_may (h : stepGO P cfs fc env ops o st = some st') : mayPut st o.dst = true := by
  unfold stepGO at h
  split at h
  · exact stepO_may h
  · split at h
    · split at h
      · exact stepO_may h
      · split at h
        · assumption
        · cases h
    · split at h
      · assumption
      · cases h
    · cases h
theorem may_prot {dst : Option Tmp} {i : Nat} (h : mayPut st dst = true) (hi : i ∈ st.protS) : dst ≠ some i := by
  rintro rfl
  simp [mayPut] at h
  exact h.1 hi
/-- Only the operation's own slot changes. -/
theorem put_other (a : Act) (dst : Option Tmp) (v : Value) {i : Nat} (h : dst ≠ some i) : (a.put dst v).tmps.getD i undef = a.tmps.getD i undef := by
  cases dst with
  | none => rfl
  | some d =>
    show (a.tmps.setIfInBounds d v).getD i undef = _
    rw [agetD_set, if_neg]
    rintro ⟨rfl, _⟩
    exact h rfl
theorem wp_slots {K : Act → World → Prop} {Q : Exit → Act → World → Prop} (h : o.wp P a w K Q) : o.wp P a w (fun a' w' => K a' w' ∧ ∀ i, o.dst ≠ some i → a'.tmps.getD i undef = a.tmps.getD i undef) Q := by
  unfold Oper.wp at *
  generalize (execOp a.eval o).run P w = r at *
  cases r with
  | ok n w' =>
    cases n <;> simp only [Oper.upon] at h ⊢
    case value u => exact ⟨h, fun i hi => put_other a _ _ hi⟩
    case skip => exact ⟨h, fun i hi => put_other a _ _ hi⟩
    case defer d => exact ⟨h, fun i hi => put_other { a with defers := d :: a.defers } _ _ hi⟩
    case enter f args =>
      refine Calls.mono h fun e w'' he => ?_
      cases e with
      | returned u => exact ⟨he, fun i hi => put_other a _ _ hi⟩
      | panicked c => exact he
      | outgrown => exact he
    case row row args => exact Rows.mono h fun u w'' he => ⟨he, fun i hi => put_other a _ _ hi⟩
  | halt x w' =>
    cases x <;> simp only [Oper.upon] at h ⊢
    case panic u => exact h
/-- One step, with all that it leaves alone. -/
theorem stepGO_sound' (henv : CallOk P cfs env) (h : stepGO P cfs fc env ops o st = some st') (hr : Rel P X w0 g0 g st a w) (K : Act → World → Prop) (Q : Exit → Act → World → Prop)
    (hK : ∀ g' a' w', Rel P X w0 g0 g' st' a' w' → (∀ i ∈ st.protS, a'.tmps.getD i undef = a.tmps.getD i undef) → K a' w') : if Region.wanted o (yielded ops.toArray a.tmps) then o.wp P a w K Q else K (a.put o.dst undef) w := by
  have h1 := stepGO_sound henv h hr (fun a' w' => ∃ g', Rel P X w0 g0 g' st' a' w') Q (fun g' a' w' h => ⟨g', h⟩)
  have hm := stepGO_may h
  split at h1
  · rename_i hw
    rw [if_pos hw]
    exact Oper.wp_mono (fun a' w' ⟨⟨g', h⟩, hs⟩ => hK g' a' w' h fun i hi => hs i (may_prot hm hi)) (wp_slots h1)
  · rename_i hw
    rw [if_neg hw]
    obtain ⟨g', h1⟩ := h1
    exact hK g' _ _ h1 fun i hi => put_other a _ _ (may_prot hm hi)
theorem stepsO_same : ∀ (l : List Oper) (st st' : St), stepsO P cfs fc env ops l st = some st' → Same st st'
  | [], st, st', h => by injection h with h; subst h; exact .refl _
  | o :: r, st, st', h => by
    unfold stepsO at h
    split at h
    · rename_i h1; exact (stepGO_same h1).trans (stepsO_same r _ _ h)
    · cases h
theorem stepsO_list' (henv : CallOk P cfs env) {Q : Exit → Act → World → Prop} : ∀ (l : List Oper) (st st' : St) (g : Gho) (a : Act) (w : World), stepsO P cfs fc env ops l st = some st' → Rel P X w0 g0 g st a w →
    (∀ g' a' w', Rel P X w0 g0 g' st' a' w' → (∀ i ∈ st.protS, a'.tmps.getD i undef = a.tmps.getD i undef) → Q .normal a' w') → wpList P ops.toArray Q l a w
  | [], st, st', g, a, w, h, hr, hK => by
    injection h with h
    subst h
    exact hK g a w hr (fun _ _ => rfl)
  | o :: r, st, st', g, a, w, h, hr, hK => by
    unfold stepsO at h
    split at h
    · rename_i st1 h1
      exact wpList_step fun K hK' => stepGO_sound' henv h1 hr K Q fun g' a' w' hr' hs => hK' _ _ (stepsO_list' henv r st1 st' g' a' w' h hr' fun g2 a2 w2 h2 hs2 => hK g2 a2 w2 h2 fun i hi =>
        (hs2 i ((stepGO_same h1).protS ▸ hi)).trans (hs i hi))
    · cases h
end
end Go.Proofs.Ytkimdfpmblhapaa.Va

/- Operations in any order: what an operation looks at. -/
set_option linter.unusedVariables false
set_option linter.unusedSimpArgs false
namespace Go.Proofs.Ytkimdfpmblhapaa.Va
open Go.RowKit

/-- Two states that are the same for an operation. -/
structure Agree (f : FP) (st st2 : St) : Prop where
  same : Same st st2
  slot : ∀ s ∈ f.look, st2.fr.getD s .undef = st.fr.getD s .undef
  hp : ∀ n ∈ f.H, st2.hp.getD n none = st.hp.getD n none
  tk : ∀ m ∈ f.T, st2.tk.getD m none = st.tk.getD m none
def HeIn (f : FP) : HE → Prop
  | .none => True
  | .ob n _ => n ∈ f.H ∧ f.wh = true
  | .app was now => now ∈ f.T ∧ (∀ m, was = some m → m ∈ f.T) ∧ f.wt = true
theorem mem_tmpsOf {t : Tmp} : ∀ {l : List Operand}, .tmp t ∈ l → t ∈ tmpsOf l
  | .tmp u :: r, h => by
    unfold tmpsOf
    rcases List.mem_cons.1 h with h | h
    · cases h; exact List.mem_cons_self
    · exact List.mem_cons_of_mem _ (mem_tmpsOf h)
  | .const _ :: r, h => by
    unfold tmpsOf
    rcases List.mem_cons.1 h with h | h
    · cases h
    · exact mem_tmpsOf h
  | .global _ :: r, h => by
    unfold tmpsOf
    rcases List.mem_cons.1 h with h | h
    · cases h
    · exact mem_tmpsOf h
  | .func _ :: r, h => by
    unfold tmpsOf
    rcases List.mem_cons.1 h with h | h
    · cases h
    · exact mem_tmpsOf h
theorem mem_namesOf {st : St} {n : Nat} {x : Operand} : ∀ {l : List Operand}, x ∈ l → n ∈ avNames (st.ev x) → n ∈ namesOf st l
  | y :: r, h, hn => by
    unfold namesOf
    rcases List.mem_cons.1 h with h | h
    · subst h; exact List.mem_append_left _ hn
    · exact List.mem_append_right _ (mem_namesOf h hn)
theorem mem_marksOf {st : St} {n : Nat} {x : Operand} : ∀ {l : List Operand}, x ∈ l → n ∈ avMarks (st.ev x) → n ∈ marksOf st l
  | y :: r, h, hn => by
    unfold marksOf
    rcases List.mem_cons.1 h with h | h
    · subst h; exact List.mem_append_left _ hn
    · exact List.mem_append_right _ (mem_marksOf h hn)
theorem getD_any {α : Type} {l r : List α} (hl : r.length = l.length) {m : Nat} {z : α} (h : r.getD m z = l.getD m z) (y : α) : r.getD m y = l.getD m y := by
  simp only [List.getD_eq_getElem?_getD] at h ⊢
  by_cases hm : m < l.length
  · rw [List.getElem?_eq_getElem (by omega), List.getElem?_eq_getElem hm] at h ⊢
    exact h
  · rw [List.getElem?_eq_none (by omega), List.getElem?_eq_none (by omega)]
section
variable {P : Program} {cfs : FuncId → Nat → FCfg} {fc : FCfg} {env : Env} {ops : List Oper} {i : Nat} {o : Oper} {st st2 : St} {b : Bool} {out : Out}
theorem Agree.ev (A : Agree (fpOf ops i o st) st st2) {x : Operand} (h : x ∈ opsOf o.op) : st2.ev x = st.ev x := by
  cases x with
  | tmp t => exact A.slot t (List.mem_append_left _ (mem_tmpsOf h))
  | const v => rfl
  | global g => rfl
  | func f => rfl
theorem Agree.obj (A : Agree (fpOf ops i o st) st st2) {x : Operand} (h : x ∈ opsOf o.op) {n : Nat} (hn : n ∈ avNames (st.ev x)) : st2.hp.getD n none = st.hp.getD n none :=
  A.hp n (List.mem_cons_of_mem _ (mem_namesOf h hn))
theorem Agree.mark (A : Agree (fpOf ops i o st) st st2) {x : Operand} (h : x ∈ opsOf o.op) {m : Nat} (hm : m ∈ avMarks (st.ev x)) : st2.tk.getD m none = st.tk.getD m none :=
  A.tk m (List.mem_cons_of_mem _ (mem_marksOf h hm))
theorem live_eq {m : Nat} (h : st2.tk.getD m none = st.tk.getD m none) : liveTk st2 m = liveTk st m := by unfold liveTk; rw [h]
theorem use_eq (hs : Same st st2) {m : Nat} (h : st2.tk.getD m none = st.tk.getD m none) : useTk st2 m = useTk st m := by unfold useTk; rw [live_eq h, hs.protT]
theorem free_eq (hs : Same st st2) {n : Nat} (h : st2.tk.getD (st.tb + n) none = st.tk.getD (st.tb + n) none) : freeTk st2 n = freeTk st n := by
  unfold freeTk
  rw [hs.tb, hs.tk, hs.protT, getD_any hs.tk h]
theorem Agree.new (A : Agree (fpOf ops i o st) st st2) {n : Nat} (h : o.dst = some n) : st2.hp.getD (st2.nb + n) none = st.hp.getD (st.nb + n) none := by
  rw [A.same.nb]
  exact A.hp _ (by show _ ∈ (st.nb + o.dst.getD 0) :: _; rw [h]; exact List.mem_cons_self)
theorem Agree.newT (A : Agree (fpOf ops i o st) st st2) {n : Nat} (h : o.dst = some n) : st2.tk.getD (st.tb + n) none = st.tk.getD (st.tb + n) none :=
  A.tk _ (by show _ ∈ (st.tb + o.dst.getD 0) :: _; rw [h]; exact List.mem_cons_self)
theorem xnames {x : Operand} {s : Sh} {d : D} {v : XV} {n : Nat} (h : st.ev x = .dt s d [.x v]) (hn : n ∈ v.names) : n ∈ avNames (st.ev x) := by
  rw [h]
  show n ∈ v.names ++ []
  rw [List.append_nil]
  exact hn
theorem core_agree (hcore : core P fc o st = some (b, out)) (A : Agree (fpOf ops i o st) st st2) : core P fc o st2 = some (b, out) := by
  have hs := A.same
  cases ho : o.op with
  | move x =>
    have e := A.ev (x := x) (by rw [ho]; simp [opsOf])
    unfold core at hcore ⊢
    rw [ho] at hcore ⊢
    simp only [e] at hcore ⊢
    exact hcore
  | assign x =>
    have e := A.ev (x := x) (by rw [ho]; simp [opsOf])
    unfold core at hcore ⊢
    rw [ho] at hcore ⊢
    simp only [e] at hcore ⊢
    exact hcore
  | alloc t =>
    unfold core at hcore ⊢
    rw [ho] at hcore ⊢
    try simp only at hcore ⊢
    split at hcore
    · rename_i n s hd hsh
      try rw [hd, hsh]
      try simp only at hcore ⊢
      rw [A.new hd, hs.nb, hs.hp, hs.protM]
      exact hcore
    · cases hcore
  | box t x =>
    have e := A.ev (x := x) (by rw [ho]; simp [opsOf])
    unfold core at hcore ⊢
    rw [ho] at hcore ⊢
    simp only [e] at hcore ⊢
    split at hcore
    · rename_i n s _ _ _ hd hsh hc
      try rw [hd, hsh, hc]
      try simp only at hcore ⊢
      rw [A.new hd, hs.nb, hs.hp, hs.protM]
      exact hcore
    · cases hcore
  | build t ps =>
    have e : ∀ p ∈ ps.toList, st2.ev p.2 = st.ev p.2 := fun p hp => A.ev (x := p.2) (by rw [ho]; exact List.mem_map.2 ⟨p, hp, rfl⟩)
    have hm : ∀ (f : Nat × Operand → AV → Nat × AV), (ps.toList.map fun p => f p (st2.ev p.2)) = (ps.toList.map fun p => f p (st.ev p.2)) := fun f => List.map_congr_left fun p hp => by rw [e p hp]
    unfold core at hcore ⊢
    rw [ho] at hcore ⊢
    try simp only at hcore ⊢
    split at hcore
    · rename_i fs s hu hsh
      try rw [hu, hsh]
      try simp only
      exact (congrArg (fun L => match zeroD P t s with
        | some z => match fillD P fs s.ks (z.1.subL 0 s.ks.length, z.2) L with
          | some l => val (.dt s (.agg l.1) l.2)
          | none => none
        | none => none) (hm (fun p v => (p.1, match fs[p.1]? with | some f => cast P f.type v | none => .undef)))).trans hcore
    · cases hcore
  | buildSlice t n ps =>
    have e : ∀ p ∈ ps.toList, st2.ev p.2 = st.ev p.2 := fun p hp => A.ev (x := p.2) (by rw [ho]; exact List.mem_map.2 ⟨p, hp, rfl⟩)
    have hm : ∀ (f : Nat × Operand → AV → Nat × AV), (ps.toList.map fun p => f p (st2.ev p.2)) = (ps.toList.map fun p => f p (st.ev p.2)) := fun f => List.map_congr_left fun p hp => by rw [e p hp]
    unfold core at hcore ⊢
    rw [ho] at hcore ⊢
    try simp only at hcore ⊢
    split at hcore
    · rename_i et hu
      try rw [hu]
      try simp only
      rw [hm (fun p v => (p.1, cast P et v))]
      exact hcore
    · cases hcore
  | load t x =>
    have hx : x ∈ opsOf o.op := by rw [ho]; simp [opsOf]
    have e := A.ev hx
    unfold core at hcore ⊢
    rw [ho] at hcore ⊢
    simp only [e] at hcore ⊢
    split at hcore
    · rename_i d n off s hev hsh
      try rw [hev, hsh]
      try simp only
      rw [A.obj hx (xnames hev (by simp [XV.names]))]
      exact hcore
    · rename_i s0 d off s hev hsh
      try rw [hev, hsh]
      exact hcore
    · rename_i m s0 d off s hev hsh
      try rw [hev, hsh]
      try simp only
      rw [live_eq (A.mark hx (by rw [hev]; simp [avMarks]))]
      exact hcore
    · cases hcore
  | store t x y =>
    have hx : x ∈ opsOf o.op := by rw [ho]; simp [opsOf]
    have e := A.ev hx
    have e2 := A.ev (x := y) (by rw [ho]; simp [opsOf])
    unfold core at hcore ⊢
    rw [ho] at hcore ⊢
    simp only [e, e2] at hcore ⊢
    split at hcore
    · rename_i d n off s s' d' aps hev hsh hc
      try rw [hev, hsh, hc]
      try simp only
      rw [A.obj hx (xnames hev (by simp [XV.names])), hs.prot]
      exact hcore
    · cases hcore
  | nilCheck x =>
    have hx : x ∈ opsOf o.op := by rw [ho]; simp [opsOf]
    have e := A.ev hx
    unfold core at hcore ⊢
    rw [ho] at hcore ⊢
    simp only [e] at hcore ⊢
    split at hcore
    · rename_i hev; try rw [hev]
      exact hcore
    · rename_i hev; try rw [hev]
      exact hcore
    · rename_i m s d off hev
      try rw [hev]
      try simp only
      rw [live_eq (A.mark hx (by rw [hev]; simp [avMarks]))]
      exact hcore
    · cases hcore
  | fieldAddr t x f =>
    have hx : x ∈ opsOf o.op := by rw [ho]; simp [opsOf]
    have e := A.ev hx
    unfold core at hcore ⊢
    rw [ho] at hcore ⊢
    simp only [e] at hcore ⊢
    split at hcore
    · rename_i hu hev; try rw [hu, hev]
      exact hcore
    · rename_i hu hev; try rw [hu, hev]
      exact hcore
    · rename_i fs m s d off hu hev
      try rw [hu, hev]
      try simp only
      rw [live_eq (A.mark hx (by rw [hev]; simp [avMarks]))]
      exact hcore
    · cases hcore
  | field t x f =>
    have e := A.ev (x := x) (by rw [ho]; simp [opsOf])
    unfold core at hcore ⊢
    rw [ho] at hcore ⊢
    simp only [e] at hcore ⊢
    exact hcore
  | indexAddr t x y =>
    have hx : x ∈ opsOf o.op := by rw [ho]; simp [opsOf]
    have e := A.ev hx
    have e2 := A.ev (x := y) (by rw [ho]; simp [opsOf])
    unfold core at hcore ⊢
    rw [ho] at hcore ⊢
    simp only [e, e2] at hcore ⊢
    split at hcore
    · rename_i et et' d ap k di hu hev hev2
      try rw [hu, hev, hev2]
      try simp only
      cases ap with
      | arr m =>
        have hl : liveTk st2 m = liveTk st m := live_eq (A.mark hx (by rw [hev]; simp [avMarks, apMarks]))
        by_cases het : et = et'
        · rw [if_pos het] at hcore ⊢
          cases hsp : shp P et with
          | none => rw [hsp] at hcore; cases hcore
          | some s =>
            rw [hsp] at hcore
            simp only [dataAp, Bool.false_eq_true, if_false, hl] at hcore ⊢
            exact hcore
        · rw [if_neg het] at hcore; cases hcore
      | _ => exact hcore
    · cases hcore
  | index t x y =>
    have e := A.ev (x := x) (by rw [ho]; simp [opsOf])
    have e2 := A.ev (x := y) (by rw [ho]; simp [opsOf])
    unfold core at hcore ⊢
    rw [ho] at hcore ⊢
    simp only [e, e2] at hcore ⊢
    exact hcore
  | extract x k =>
    have e := A.ev (x := x) (by rw [ho]; simp [opsOf])
    unfold core at hcore ⊢
    rw [ho] at hcore ⊢
    simp only [e] at hcore ⊢
    exact hcore
  | binOp op t x y u =>
    have e := A.ev (x := x) (by rw [ho]; simp [opsOf])
    have e2 := A.ev (x := y) (by rw [ho]; simp [opsOf])
    unfold core at hcore ⊢
    rw [ho] at hcore ⊢
    simp only [e, e2] at hcore ⊢
    exact hcore
  | unOp op t x =>
    have e := A.ev (x := x) (by rw [ho]; simp [opsOf])
    unfold core at hcore ⊢
    rw [ho] at hcore ⊢
    simp only [e] at hcore ⊢
    exact hcore
  | convert t u x =>
    have e := A.ev (x := x) (by rw [ho]; simp [opsOf])
    unfold core at hcore ⊢
    rw [ho] at hcore ⊢
    simp only [e] at hcore ⊢
    exact hcore
  | slice t x lo hi mx =>
    have hx : x ∈ opsOf o.op := by rw [ho]; simp [opsOf]
    have e := A.ev hx
    have e1 : lo.map st2.ev = lo.map st.ev := by
      cases lo with
      | none => rfl
      | some z => simp only [Option.map_some]; rw [A.ev (x := z) (by rw [ho]; simp [opsOf])]
    have e2 : hi.map st2.ev = hi.map st.ev := by
      cases hi with
      | none => rfl
      | some z => simp only [Option.map_some]; rw [A.ev (x := z) (by rw [ho]; simp [opsOf])]
    have e3 : ∀ z, mx = some z → st2.ev z = st.ev z := fun z hz => A.ev (x := z) (by rw [ho, hz]; simp [opsOf])
    unfold core at hcore ⊢
    rw [ho] at hcore ⊢
    simp only [e, e1, e2] at hcore ⊢
    split at hcore
    · rename_i hu hev
      try rw [hu, hev]
      exact hcore
    · rename_i et et' d ap hu hev
      try rw [hu, hev]
      try simp only
      split at hcore
      · rename_i hc
        rw [if_pos hc]
        split at hcore
        · rename_i kl l kh h hl hh
          try rw [hl, hh]
          try simp only
          cases mx with
          | some z =>
            try simp only at hcore ⊢
            rw [e3 z rfl]
            exact hcore
          | none =>
            try simp only at hcore ⊢
            cases ap with
            | arr m =>
              try simp only at hcore ⊢
              split at hcore
              · rename_i n hd
                try rw [hd]
                try simp only
                rw [use_eq hs (A.mark hx (by rw [hev]; simp [avMarks, apMarks])), free_eq hs (A.newT hd), hs.tb]
                exact hcore
              · cases hcore
            | _ => exact hcore
        · cases hcore
      · cases hcore
    · cases hcore
  | makeFunc fn first cap =>
    have e : ∀ x ∈ first.toList ++ cap.toList, st2.ev x = st.ev x := fun x hx => A.ev (by rw [ho]; exact hx)
    have e1 : first.toList.map st2.ev = first.toList.map st.ev := List.map_congr_left fun x hx => e x (List.mem_append_left _ hx)
    have e2 : cap.toList.map st2.ev = cap.toList.map st.ev := List.map_congr_left fun x hx => e x (List.mem_append_right _ hx)
    unfold core at hcore ⊢
    rw [ho] at hcore ⊢
    cases fn with
    | func f =>
      simp only [e1, e2] at hcore ⊢
      exact hcore
    | _ => cases hcore
  | makeMap t r =>
    unfold core at hcore ⊢
    rw [ho] at hcore ⊢
    try simp only at hcore ⊢
    split at hcore
    · rename_i k v n hu hd
      try rw [hu, hd]
      try simp only
      rw [A.new hd, hs.nb, hs.hp, hs.protM]
      exact hcore
    · cases hcore
  | lookup t x y ok =>
    have hx : x ∈ opsOf o.op := by rw [ho]; simp [opsOf]
    have e := A.ev hx
    have e2 := A.ev (x := y) (by rw [ho]; simp [opsOf])
    unfold core at hcore ⊢
    rw [ho] at hcore ⊢
    simp only [e, e2] at hcore ⊢
    split at hcore
    · rename_i k v d n kk di hu hev hev2
      try rw [hu, hev, hev2]
      try simp only
      rw [A.obj hx (xnames hev (by simp [XV.names]))]
      exact hcore
    · cases hcore
  | mapUpdate t x y z =>
    have hx : x ∈ opsOf o.op := by rw [ho]; simp [opsOf]
    have e := A.ev hx
    have e2 := A.ev (x := y) (by rw [ho]; simp [opsOf])
    have e3 := A.ev (x := z) (by rw [ho]; simp [opsOf])
    unfold core at hcore ⊢
    rw [ho] at hcore ⊢
    simp only [e, e2, e3] at hcore ⊢
    split at hcore
    · rename_i k v d n kk di hu hev hev2
      try rw [hu, hev, hev2]
      try simp only
      rw [A.obj hx (xnames hev (by simp [XV.names])), hs.prot]
      exact hcore
    · cases hcore
  | call c =>
    have e : ∀ x ∈ c.args.toList, st2.ev x = st.ev x := fun x hx => A.ev (by rw [ho]; exact List.mem_append_right _ hx)
    have em : ∀ x ∈ c.args.toList, ∀ m ∈ avMarks (st.ev x), st2.tk.getD m none = st.tk.getD m none := fun x hx m hm => A.mark (x := x) (by rw [ho]; exact List.mem_append_right _ hx) hm
    unfold core at hcore ⊢
    rw [ho] at hcore ⊢
    try simp only at hcore ⊢
    split at hcore
    · rename_i x hcal hargs
      rw [hargs] at e em
      have hx : x ∈ [x] := List.mem_cons_self
      rw [e x hx]
      split at hcore
      · rename_i h1 h2; try rw [h1, h2]
        exact hcore
      · rename_i et et' d ap h1 h2
        try rw [h1, h2]
        try simp only
        have : okAp st2 ap = okAp st ap := by
          cases ap with
          | arr m =>
            show (match st2.tk.getD m none with | some true => true | _ => false) = (match st.tk.getD m none with | some true => true | _ => false)
            rw [em x hx m (by rw [h2]; simp [avMarks, apMarks])]
          | _ => rfl
        rw [this]
        exact hcore
      · cases hcore
    · rename_i x y hcal hargs
      rw [hargs] at e em
      have hx : x ∈ [x, y] := List.mem_cons_self
      rw [e x hx, e y (by simp)]
      split at hcore
      · rename_i t u n h1 hd
        try rw [h1, hd]
        try simp only
        split at hcore
        · rename_i htu
          rw [if_pos htu]
          split at hcore
          · rename_i et et' dx ap et'' dy aq h2 h3 h4
            try rw [h2, h3, h4]
            try simp only
            split at hcore
            · rename_i s inf h5 h6
              try rw [h5, h6]
              try simp only
              rw [free_eq hs (A.newT hd)]
              split at hcore
              · rename_i hc
                rw [if_pos hc, hs.tb]
                have hap : ∀ m, m ∈ apMarks [ap] → useTk st2 m = useTk st m := fun m hm => use_eq hs (em x hx m (by
                  unfold cast at h3
                  split at h3
                  · split at h3
                    · cases h3; simp [apMarks] at hm
                    · cases h3
                  · cases h3
                  · rw [h3]; exact hm))
                cases ap with
                | own m => simp only at hcore ⊢; rw [hap m (by simp [apMarks])]; exact hcore
                | arr m => simp only at hcore ⊢; rw [hap m (by simp [apMarks])]; exact hcore
                | _ => exact hcore
              · cases hcore
            · cases hcore
          · cases hcore
        · cases hcore
      · cases hcore
    · cases hcore
  | _ => unfold core at hcore; rw [ho] at hcore; cases hcore
end
end Go.Proofs.Ytkimdfpmblhapaa.Va
