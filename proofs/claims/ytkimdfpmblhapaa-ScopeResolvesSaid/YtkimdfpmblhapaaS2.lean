/- Plain lemmas: tokens, declarations, a module; the reference's Resolve. Conditions: each theorem's own. -/
import Derived.Test.YtkimdfpmblhapaaS1
set_option linter.unusedVariables false
set_option linter.unusedSimpArgs false
set_option linter.constructorNameAsVariable false
/- The text's tokens. -/
set_option linter.unusedVariables false
set_option linter.unusedSimpArgs false
namespace Go.Proofs.Ytkimdfpmblhapaa.Va
def letter (c : Int) : Bool := decide (97 ≤ c ∧ c ≤ 122) || decide (65 ≤ c ∧ c ≤ 90) || (c == 95)
def digit (c : Int) : Bool := decide (48 ≤ c ∧ c ≤ 57)
theorem letter_ev (c : Int) : Ev (fun n => F40 n (.int c)) (0, [.bool (letter c)]) := by
  refine .step (g := fun _ => rt 0 [.bool (letter c)]) (fun n => ?_) (.ret _ _)
  rw [F40_eq]
  unfold letter
  by_cases h1 : 97 ≤ c <;> by_cases h2 : c ≤ 122 <;> by_cases h3 : 65 ≤ c <;> by_cases h4 : c ≤ 90 <;> simp [h1, h2, h3, h4, D.toInt, D.toBool]
theorem digit_ev (c : Int) : Ev (fun n => F41 n (.int c)) (0, [.bool (digit c)]) := by
  refine .step (g := fun _ => rt 0 [.bool (digit c)]) (fun n => ?_) (.ret _ _)
  rw [F41_eq]
  unfold digit
  by_cases h1 : 48 ≤ c <;> by_cases h2 : c ≤ 57 <;> simp [h1, h2, D.toInt, D.toBool]
theorem blank_ev (c : Int) : EvP (fun n => F38 n (.int c)) (fun r => ∃ b, r = (0, [.bool b])) := by
  refine .step (fun n => F38_eq n _) ?_
  refine .bind (Q1 := fun r => ∃ b, r = (0, [.bool b])) ?_ (by rintro _ ⟨b, rfl⟩; exact .ret ⟨_, rfl⟩)
  exact .ite (fun _ => .ite (fun _ => .ite (fun _ => .ret ⟨_, rfl⟩) (fun _ => .ret ⟨_, rfl⟩)) (fun _ => .ret ⟨_, rfl⟩)) (fun _ => .ret ⟨_, rfl⟩)
variable {s : ByteArray}
theorem begins_ev (hs : s.size ≤ 8192) (a : Nat) (ha : a ≤ s.size) (p : ByteArray) (hp : p.size ≤ 100) : EvP (fun n => F39 n (.str s) (.int a) (.str p)) (fun r => ∃ b, r = (0, [.bool b]) ∧ (b = true → a + p.size ≤ s.size ∧ s.extract a (a + p.size) = p)) := by
  refine .step (fun n => F39_eq n _ _ _) ?_
  have h1 : IntKind.i64.wrap ((s.size : Int) - (a : Int)) = ((s.size - a : Nat) : Int) := by rw [wrap64_of (by omega) (by omega)]; omega
  have h2 : IntKind.i64.wrap ((a : Int) + (p.size : Int)) = ((a + p.size : Nat) : Int) := by rw [wrap64_of (by omega) (by omega)]; omega
  simp only [D.toStr, D.toInt, h1, h2]
  refine .bind (Q1 := fun r => ∃ b, r = (0, [.bool b]) ∧ (b = true → a + p.size ≤ s.size ∧ s.extract a (a + p.size) = p)) ?_ (by rintro _ ⟨b, rfl, h⟩; exact .ret ⟨_, rfl, h⟩)
  refine .ite (fun h => ?_) (fun h => .ret ⟨_, rfl, fun h => by cases h⟩)
  have h3 : a + p.size ≤ s.size := by simp at h; omega
  refine .ite (fun _ => .ret ⟨_, rfl, fun h4 => ⟨h3, ?_⟩⟩) (fun h => absurd (by simp; omega) h)
  have h4 := of_decide_eq_true h4
  rwa [show ((a : Int).toNat) = a by omega, show (((a + p.size : Nat) : Int).toNat) = a + p.size by omega] at h4
theorem byteAt_extract (a : Nat) (p : ByteArray) (h : s.extract a (a + p.size) = p) (hp : 0 < p.size) : byteAt s a = (p[0].toNat : Int) := by
  have h1 : (s.extract a (a + p.size)).data = p.data := by rw [h]
  rw [ByteArray.data_extract] at h1
  have h2 : (s.data.extract a (a + p.size))[0]? = p.data[0]? := by rw [h1]
  rw [Array.getElem?_extract] at h2
  have hpd : 0 < p.data.size := hp
  rw [Array.getElem?_eq_getElem hpd] at h2
  split at h2
  · rw [Nat.add_zero] at h2
    obtain ⟨h3, h4⟩ := Array.getElem?_eq_some_iff.1 h2
    unfold byteAt
    have h5 : s[((a : Int).toNat)]? = some p[0] := by
      rw [show ((a : Int).toNat) = a by omega]
      have h6 : a < s.size := h3
      rw [getElem?_pos s a h6]
      exact congrArg some h4
    rw [h5]
  · cases h2
theorem skip_loop (hs : s.size ≤ 8192) : ∀ (d a : Nat), s.size - a ≤ d → a ≤ s.size → EvP2 (fun n k => L22_5 n (.str s) k [.int a]) (fun r => ∃ b : Nat, r = (1, [.int b]) ∧ a ≤ b ∧ b ≤ s.size)
  | d, a, hd, ha => by
    refine .step (fun n k => L22_5_s n k _ _) ?_
    simp only [D.toStr, D.toInt]
    refine .bind (Q1 := fun r => ∃ b, r = (0, [.bool b]) ∧ (b = true → a < s.size)) ?_ ?_
    · refine .ite (fun h => ?_) (fun h => .ret ⟨_, rfl, fun h => by cases h⟩)
      have h : a < s.size := by simpa using h
      exact .ite (fun _ => .ret ⟨_, rfl, fun _ => h⟩) (fun h2 => absurd (inR_nat h) h2)
    rintro _ ⟨b, rfl, hb⟩
    simp only [List.getD_cons_zero, D.toBool]
    refine .ite (fun h => ?_) (fun h => .ret ⟨a, rfl, Nat.le_refl _, ha⟩)
    have hlt := hb h
    rw [wrap1 (by omega)]
    match d, hd with
    | 0, hd => omega
    | d + 1, hd =>
      refine (skip_loop hs d (a + 1) (by omega) (by omega)).mono ?_
      rintro _ ⟨b, rfl, h1, h2⟩
      exact ⟨b, rfl, by omega, h2⟩
theorem next_loop (hs : s.size ≤ 8192) : ∀ (d a : Nat), s.size - a ≤ d → a ≤ s.size → EvP2 (fun n k => L22_1 n (.str s) k [.int a]) (fun r => ∃ b : Nat, (r = (1, [.int b]) ∨ r = (2, [.int b])) ∧ a ≤ b ∧ b ≤ s.size)
  | d, a, hd, ha => by
    refine .step (fun n k => L22_1_s n k _ _) ?_
    simp only [D.toStr, D.toInt]
    refine .ite (fun h => ?_) (fun h => .ret ⟨a, .inr rfl, Nat.le_refl _, ha⟩)
    have hlt : a < s.size := by simpa using h
    refine .ite (fun _ => ?_) (fun h2 => absurd (inR_nat hlt) h2)
    rw [wrap1 (by omega)]
    match d, hd with
    | 0, hd => omega
    | d + 1, hd =>
      have go : ∀ c : Nat, a < c → c ≤ s.size → EvP2 (fun n k => L22_1 n (.str s) k [.int c]) (fun r => ∃ b : Nat, (r = (1, [.int b]) ∨ r = (2, [.int b])) ∧ a ≤ b ∧ b ≤ s.size) := fun c h1 h2 => by
        refine (next_loop hs d c (by omega) h2).mono ?_
        rintro _ ⟨b, h3, h4, h5⟩
        exact ⟨b, h3, by omega, h5⟩
      refine .bind (blank_ev _) ?_
      rintro _ ⟨b, rfl⟩
      simp only [List.getD_cons_zero, D.toBool]
      refine .ite (fun h => go (a + 1) (by omega) (by omega)) (fun h => ?_)
      refine .bind (begins_ev hs a ha _ (by decide)) ?_
      rintro _ ⟨b2, rfl, hb2⟩
      simp only [List.getD_cons_zero, D.toBool]
      refine .ite (fun h => ?_) (fun h => .ret ⟨a, .inl rfl, Nat.le_refl _, ha⟩)
      -- a remark: its end lies behind its beginning
      obtain ⟨h2, h3⟩ := hb2 h
      have h4 : byteAt s a = 47 := byteAt_extract a _ h3 (by decide)
      have h2 : a + 2 ≤ s.size := h2
      refine .bind (Q1 := fun r => ∃ b : Nat, r = (1, [.int b]) ∧ a < b ∧ b ≤ s.size) ?_ ?_
      · have h5 : EvP2 (fun n k => L22_5 n (.str s) k [.int a]) (fun r => ∃ b : Nat, r = (1, [.int b]) ∧ a < b ∧ b ≤ s.size) := by
          refine .step (fun n k => L22_5_s n k _ _) ?_
          simp only [D.toStr, D.toInt]
          refine .bindE (r1 := (0, [.bool true])) ?_ ?_
          · refine .pos (by simpa using hlt) (.pos (inR_nat hlt) ?_)
            rw [h4]
            exact .ret _ _
          simp only [List.getD_cons_zero, D.toBool]
          refine .ite (fun _ => ?_) (fun h => absurd trivial h)
          rw [wrap1 (by omega)]
          refine (skip_loop hs _ (a + 1) (Nat.le_refl _) (by omega)).mono ?_
          rintro _ ⟨b, rfl, h5, h6⟩
          exact ⟨b, rfl, by omega, h6⟩
        exact h5.diag
      rintro _ ⟨c, rfl, h5, h6⟩
      exact .ite (fun _ => go c h5 h6) (fun h => absurd rfl h)
theorem next_ev (hs : s.size ≤ 8192) (a : Nat) (ha : a ≤ s.size) : EvP (fun n => F22 n (.str s) (.int a)) (fun r => ∃ b : Nat, r = (0, [.int b]) ∧ a ≤ b ∧ b ≤ s.size) := by
  refine .step (fun n => F22_eq n _ _) ?_
  refine .bind (next_loop hs _ a (Nat.le_refl _) ha).diag ?_
  rintro _ ⟨b, rfl | rfl, h1, h2⟩
  · exact .ret ⟨b, rfl, h1, h2⟩
  · exact .ret ⟨b, rfl, h1, h2⟩
theorem word_loop (hs : s.size ≤ 8192) (x1 x2 : D) : ∀ (d a : Nat), s.size - a ≤ d → a ≤ s.size → EvP2 (fun n k => L23_4 n (.str s) x1 x2 k [.int a]) (fun r => ∃ b : Nat, r = (1, [.int b]) ∧ a ≤ b ∧ b ≤ s.size ∧ (a < s.size → letter (byteAt s a) = true → a < b))
  | d, a, hd, ha => by
    refine .step (fun n k => L23_4_s n k _ _ _ _) ?_
    simp only [D.toStr, D.toInt]
    refine .bind (Q1 := fun r => ∃ b, r = (0, [.bool b]) ∧ (b = true → a < s.size) ∧ (a < s.size → letter (byteAt s a) = true → b = true)) ?_ ?_
    · refine .ite (fun h => ?_) (fun h => .ret ⟨_, rfl, (fun h => by cases h), fun h2 => absurd (by simpa using h2) h⟩)
      have h : a < s.size := by simpa using h
      refine .ite (fun _ => ?_) (fun h2 => absurd (inR_nat h) h2)
      refine .bindE (letter_ev _) ?_
      simp only [List.getD_cons_zero, D.toBool]
      refine .ite (fun h3 => ?_) (fun _ => .ret ⟨_, rfl, fun _ => h, fun _ _ => rfl⟩)
      refine .ite (fun _ => ?_) (fun h2 => absurd (inR_nat h) h2)
      refine .bindE (digit_ev _) ?_
      exact .ret ⟨_, rfl, fun _ => h, fun _ h4 => by rw [h3] at h4; cases h4⟩
    rintro _ ⟨b, rfl, hb, hb2⟩
    simp only [List.getD_cons_zero, D.toBool]
    refine .ite (fun h => ?_) (fun h => .ret ⟨a, rfl, Nat.le_refl _, ha, fun h2 h3 => absurd (hb2 h2 h3) h⟩)
    have hlt := hb h
    rw [wrap1 (by omega)]
    match d, hd with
    | 0, hd => omega
    | d + 1, hd =>
      refine (word_loop hs x1 x2 d (a + 1) (by omega) (by omega)).mono ?_
      rintro _ ⟨b, rfl, h1, h2, _⟩
      exact ⟨b, rfl, by omega, h2, fun _ _ => by omega⟩
theorem num_loop (hs : s.size ≤ 8192) (x1 x2 : D) : ∀ (d a : Nat), s.size - a ≤ d → a ≤ s.size → EvP2 (fun n k => L23_13 n (.str s) x1 x2 k [.int a]) (fun r => ∃ b : Nat, r = (1, [.int b]) ∧ a ≤ b ∧ b ≤ s.size ∧ (a < s.size → digit (byteAt s a) = true → a < b))
  | d, a, hd, ha => by
    refine .step (fun n k => L23_13_s n k _ _ _ _) ?_
    simp only [D.toStr, D.toInt]
    refine .bind (Q1 := fun r => ∃ b, r = (0, [.bool b]) ∧ (b = true → a < s.size) ∧ (a < s.size → digit (byteAt s a) = true → b = true)) ?_ ?_
    · refine .ite (fun h => ?_) (fun h => .ret ⟨_, rfl, (fun h => by cases h), fun h2 => absurd (by simpa using h2) h⟩)
      have h : a < s.size := by simpa using h
      refine .ite (fun _ => ?_) (fun h2 => absurd (inR_nat h) h2)
      refine .bindE (digit_ev _) ?_
      exact .ret ⟨_, rfl, fun _ => h, fun _ h4 => h4⟩
    rintro _ ⟨b, rfl, hb, hb2⟩
    simp only [List.getD_cons_zero, D.toBool]
    refine .ite (fun h => ?_) (fun h => .ret ⟨a, rfl, Nat.le_refl _, ha, fun h2 h3 => absurd (hb2 h2 h3) h⟩)
    have hlt := hb h
    rw [wrap1 (by omega)]
    match d, hd with
    | 0, hd => omega
    | d + 1, hd =>
      refine (num_loop hs x1 x2 d (a + 1) (by omega) (by omega)).mono ?_
      rintro _ ⟨b, rfl, h1, h2, _⟩
      exact ⟨b, rfl, by omega, h2, fun _ _ => by omega⟩
theorem among_loop (x : ByteArray) (W : List D) (hW : W.length ≤ 100) : ∀ (d i : Nat), W.length - i ≤ d → i ≤ W.length → EvP2 (fun n k => L42_2 n (.str x) (.sl W) k [.int i]) (fun r => (∃ b, r = (1, [.bool b])) ∨ r = (2, []))
  | d, i, hd, hi => by
    refine .step (fun n k => L42_2_s n k _ _ _) ?_
    simp only [D.toInt, toL_sl]
    refine .ite (fun h => ?_) (fun h => .ret (.inr rfl))
    have hlt : i < W.length := by simpa using h
    refine .ite (fun _ => ?_) (fun h2 => absurd (inR_nat hlt) h2)
    refine .ite (fun _ => .ret (.inl ⟨_, rfl⟩)) (fun _ => ?_)
    rw [wrap1 (by omega)]
    match d, hd with
    | 0, hd => omega
    | d + 1, hd => exact among_loop x W hW d (i + 1) (by omega) (by omega)
theorem among_ev (x : ByteArray) (W : List D) (hW : W.length ≤ 100) : EvP (fun n => F42 n (.str x) (.sl W)) (fun r => ∃ b, r = (0, [.bool b])) := by
  refine .step (fun n => F42_eq n _ _) ?_
  refine .bind (among_loop x W hW _ 0 (Nat.le_refl _) (Nat.zero_le _)).diag ?_
  rintro _ (⟨b, rfl⟩ | rfl)
  · exact .ret ⟨_, rfl⟩
  · exact .ret ⟨_, rfl⟩
theorem number_loop (x : ByteArray) (hx : x.size ≤ 8192) : ∀ (d i : Nat) (v : Int), x.size - i ≤ d → i ≤ x.size → EvP2 (fun n k => L44_5 n (.str x) k [.int v, .int i]) (fun r => (∃ v b, r = (1, [.int v, .bool b])) ∨ ∃ v, r = (2, [.int v]))
  | d, i, v, hd, hi => by
    refine .step (fun n k => L44_5_s n k _ _ _) ?_
    simp only [D.toInt, D.toStr]
    refine .ite (fun h => ?_) (fun h => .ret (.inr ⟨_, rfl⟩))
    have hlt : i < x.size := by simpa using h
    refine .ite (fun _ => ?_) (fun h2 => absurd (inR_nat hlt) h2)
    refine .ite (fun _ => ?_) (fun h2 => absurd (by decide) h2)
    refine .ite (fun _ => .ret (.inl ⟨_, _, rfl⟩)) (fun _ => ?_)
    rw [wrap1 (by omega)]
    match d, hd with
    | 0, hd => omega
    | d + 1, hd => exact number_loop x hx d (i + 1) _ (by omega) (by omega)
theorem number_ev (x : ByteArray) (hx : x.size ≤ 8192) : EvP (fun n => F44 n (.str x)) (fun r => ∃ v b, r = (0, [.int v, .bool b])) := by
  refine .step (fun n => F44_eq n _) ?_
  simp only [D.toStr]
  refine .bind (Q1 := fun r => ∃ b, r = (0, [.bool b])) ?_ ?_
  · refine .ite (fun h => .ite (fun h2 => .ite (fun _ => .ret ⟨_, rfl⟩) (fun h3 => absurd (inR_pos (by decide) (by simp at h2; omega)) h3)) (fun _ => .ret ⟨_, rfl⟩)) (fun _ => .ret ⟨_, rfl⟩)
  rintro _ ⟨b, rfl⟩
  refine .ite (fun _ => .ret ⟨_, _, rfl⟩) (fun _ => ?_)
  refine .bind (number_loop x hx _ 0 0 (Nat.le_refl _) (Nat.zero_le _)).diag ?_
  rintro _ (⟨v, b, rfl⟩ | ⟨v, rfl⟩)
  · exact .ret ⟨_, _, rfl⟩
  · exact .ret ⟨_, _, rfl⟩
/-- What one token is. -/
def OneOk (s : ByteArray) (a : Nat) (r : R) : Prop := (∃ d e, r = (0, [d, .int e]) ∧ e ≠ 0) ∨ ∃ (x : Tk) (b : Nat), r = (0, [x.enc, .int 0]) ∧ x.t = b ∧ a < b ∧ b ≤ s.size
theorem sign_loop (hs : s.size ≤ 8192) (a : Nat) (ha : a ≤ s.size) (W : List ByteArray) (hW : W.length ≤ 100) (hW2 : ∀ x ∈ W, 0 < x.size ∧ x.size ≤ 100) (y : D) : ∀ (d i : Nat), W.length - i ≤ d → i ≤ W.length →
    EvP2 (fun n k => L23_21 n (.str s) (.int a) (.sl (W.map .str)) k [.int i, y]) (fun r => (∃ x : Tk, ∃ b : Nat, r = (1, [.int 0, x.enc]) ∧ x.t = b ∧ a < b ∧ b ≤ s.size) ∨ r = (2, [y]))
  | d, i, hd, hi => by
    refine .step (fun n k => L23_21_s n k _ _ _ _ _) ?_
    simp only [D.toInt, toL_sl, List.length_map]
    refine .ite (fun h => ?_) (fun h => .ret (.inr rfl))
    have hlt : i < W.length := by simpa using h
    have hg : (W.map D.str).getD ((i : Int).toNat) (.int 0) = .str (W[i]) := by simp [hlt]
    obtain ⟨h1, h2⟩ := hW2 _ (List.getElem_mem hlt)
    refine .ite (fun _ => ?_) (fun h2 => absurd (inR_nat hlt) h2)
    rw [hg, wrap1 (by omega)]
    refine .bind (begins_ev hs a ha (W[i]) h2) ?_
    rintro _ ⟨b, rfl, hb⟩
    simp only [List.getD_cons_zero, D.toBool, D.toStr]
    refine .ite (fun h => ?_) (fun h => ?_)
    · obtain ⟨h3, _⟩ := hb h
      refine .ite (fun _ => .ite (fun _ => ?_) (fun h2 => absurd (inR_nat hlt) h2)) (fun h2 => absurd (inR_nat hlt) h2)
      rw [wrapN a _ (by omega)]
      exact .ret (.inl ⟨⟨4, 0, W[i], a, ((a + (W[i]).size : Nat) : Int)⟩, a + (W[i]).size, rfl, rfl, by omega, h3⟩)
    · match d, hd with
      | 0, hd => omega
      | d + 1, hd => exact sign_loop hs a ha W hW hW2 y d (i + 1) (by omega) (by omega)
end Go.Proofs.Ytkimdfpmblhapaa.Va

/- The text's tokens, all of them. -/
set_option linter.unusedVariables false
set_option linter.unusedSimpArgs false
namespace Go.Proofs.Ytkimdfpmblhapaa.Va
variable {s : ByteArray}
def signs : List ByteArray := [⟨#[61, 61]⟩, ⟨#[33, 61]⟩, ⟨#[60, 61]⟩, ⟨#[62, 61]⟩, ⟨#[38, 38]⟩, ⟨#[124, 124]⟩, ⟨#[123]⟩, ⟨#[125]⟩, ⟨#[40]⟩, ⟨#[41]⟩, ⟨#[91]⟩, ⟨#[93]⟩, ⟨#[44]⟩, ⟨#[59]⟩, ⟨#[58]⟩, ⟨#[46]⟩, ⟨#[61]⟩, ⟨#[60]⟩, ⟨#[62]⟩, ⟨#[43]⟩, ⟨#[45]⟩, ⟨#[42]⟩, ⟨#[47]⟩, ⟨#[37]⟩, ⟨#[33]⟩, ⟨#[64]⟩]
theorem signs_ev : Ev (fun n => F45 n) (0, [.sl (signs.map .str)]) := .step (fun n => F45_eq n) (.ret _ _)
theorem signs_ok : ∀ x ∈ signs, 0 < x.size ∧ x.size ≤ 100 := by decide
theorem one_ev (hs : s.size ≤ 8192) (a : Nat) (ha : a < s.size) : EvP (fun n => F23 n (.str s) (.int a)) (OneOk s a) := by
  refine .step (fun n => F23_eq n _ _) ?_
  simp only [D.toStr, D.toInt]
  refine .ite (fun _ => ?_) (fun h => absurd (inR_nat ha) h)
  refine .bindE (letter_ev _) ?_
  simp only [List.getD_cons_zero, D.toBool]
  refine .ite (fun h => ?_) (fun h => ?_)
  · refine .bind (word_loop hs _ _ _ a (Nat.le_refl _) (by omega)).diag ?_
    rintro _ ⟨b, rfl, h1, h2, h3⟩
    have h4 := h3 ha h
    refine .ite (fun _ => ?_) (fun h => absurd rfl h)
    simp only [List.getD_cons_zero, D.toInt]
    refine .ite (fun _ => .ret (.inl ⟨_, 3, rfl, by decide⟩)) (fun _ => ?_)
    refine .ite (fun _ => ?_) (fun h => absurd (by simp; omega) h)
    have hw : Ev (fun n => F43 n) (0, [_]) := .step (fun n => F43_eq n) (.ret _ _)
    refine .bindE hw ?_
    refine .bind (among_ev _ _ (by decide)) ?_
    rintro _ ⟨c, rfl⟩
    exact .ite (fun _ => .ret (.inr ⟨⟨3, 0, _, a, b⟩, b, rfl, rfl, h4, h2⟩)) (fun _ => .ret (.inr ⟨⟨1, 0, _, a, b⟩, b, rfl, rfl, h4, h2⟩))
  refine .bindE (digit_ev _) ?_
  simp only [List.getD_cons_zero, D.toBool]
  refine .ite (fun h => ?_) (fun h => ?_)
  · refine .bind (num_loop hs _ _ _ a (Nat.le_refl _) (by omega)).diag ?_
    rintro _ ⟨b, rfl, h1, h2, h3⟩
    have h4 := h3 ha h
    refine .ite (fun _ => ?_) (fun h => absurd rfl h)
    simp only [List.getD_cons_zero, D.toInt]
    refine .ite (fun _ => ?_) (fun h => absurd (by simp; omega) h)
    refine .bind (number_ev _ (by rw [ByteArray.size_extract]; omega)) ?_
    rintro _ ⟨v, c, rfl⟩
    exact .ite (fun _ => .ret (.inl ⟨_, 5, rfl, by decide⟩)) (fun _ => .ret (.inr ⟨⟨2, v, _, a, b⟩, b, rfl, rfl, h4, h2⟩))
  refine .bindE signs_ev ?_
  refine .bind (sign_loop hs a (by omega) signs (by decide) signs_ok _ _ 0 (Nat.le_refl _) (Nat.zero_le _)).diag ?_
  rintro _ (⟨x, b, rfl, h1, h2, h3⟩ | rfl)
  · refine .ite (fun _ => ?_) (fun h => absurd rfl h)
    exact .ret (.inr ⟨x, b, rfl, h1, h2, h3⟩)
  · refine .ite (fun h => absurd h (by decide)) (fun _ => .ite (fun _ => ?_) (fun h => absurd rfl h))
    exact .ret (.inl ⟨_, 4, rfl, by decide⟩)
theorem tokens_loop (hs : s.size ≤ 8192) : ∀ (d a : Nat) (ts : List Tk), s.size - a ≤ d → a ≤ s.size → ts.length ≤ a →
    EvP2 (fun n k => L11_5 n (.str s) k [tokD ts, .int a]) (fun r => (∃ d1 d2 e, r = (1, [d1, d2, .int e]) ∧ e ≠ 0) ∨ ∃ ts : List Tk, r = (2, [tokD ts]) ∧ ts.length ≤ s.size)
  | d, a, ts, hd, ha, hl => by
    refine .step (fun n k => L11_5_s n k _ _ _) ?_
    simp only [D.toInt, D.toStr, tokD_len]
    refine .ite (fun h => ?_) (fun h => .ret (.inr ⟨ts, rfl, by omega⟩))
    have hlt : a < s.size := by simpa using h
    refine .bind (one_ev hs a hlt) ?_
    rintro _ (⟨x, e, rfl, he⟩ | ⟨x, b, rfl, h1, h2, h3⟩)
    · simp only [List.getD_cons_zero, List.getD_cons_succ, D.toInt]
      exact .ite (fun _ => .ret (.inl ⟨_, _, e, rfl, he⟩)) (fun h => absurd he (by simpa using h))
    · simp only [List.getD_cons_zero, List.getD_cons_succ, D.toInt, tk_cell4, h1]
      refine .ite (fun h => absurd h (by decide)) (fun _ => ?_)
      refine .ite (fun _ => ?_) (fun h => absurd (by simp; omega) h)
      refine .bind (next_ev hs b h3) ?_
      rintro _ ⟨c, rfl, h4, h5⟩
      have happ : D.sl ((tokD ts).toL ++ [x.enc]) = tokD (ts ++ [x]) := by unfold tokD; rw [List.map_append]; rfl
      rw [happ]
      match d, hd with
      | 0, hd => omega
      | d + 1, hd => exact tokens_loop hs d c (ts ++ [x]) (by omega) h5 (by simp; omega)
theorem tokens_ev (hs : s.size ≤ 8192) : EvP (fun n => F11 n (.str s)) (fun r => (∃ d1 d2 e, r = (0, [d1, d2, .int e]) ∧ e ≠ 0) ∨ ∃ ts : List Tk, r = (0, [tokD ts, .int 0, .int 0]) ∧ Toks ts ∧ ts.length ≤ s.size + 1) := by
  refine .step (fun n => F11_eq n _) ?_
  simp only [D.toStr]
  refine .ite (fun h => ?_) (fun _ => ?_)
  · simp at h; omega
  refine .bind (next_ev hs 0 (Nat.zero_le _)) ?_
  rintro _ ⟨a, rfl, _, ha⟩
  refine .bind (tokens_loop hs _ a [] (Nat.le_refl _) ha (Nat.zero_le _)).diag ?_
  rintro _ (⟨d1, d2, e, rfl, he⟩ | ⟨ts, rfl, hl⟩)
  · exact .ite (fun _ => .ret (.inl ⟨_, _, e, rfl, he⟩)) (fun h => absurd rfl h)
  · refine .ite (fun h => absurd h (by simp)) (fun _ => .ite (fun _ => ?_) (fun h => absurd rfl h))
    simp only [List.getD_cons_zero, tokD_len]
    refine .ite (fun _ => ?_) (fun h => absurd (by simp; omega) h)
    have happ : ∀ x : Tk, D.sl ((tokD ts).toL ++ [x.enc]) = tokD (ts ++ [x]) := fun x => by unfold tokD; rw [List.map_append]; rfl
    have he : (D.agg [D.int 5, D.int 0, D.str ⟨#[]⟩, D.int (s.size : Int), D.int (s.size : Int)]) = (⟨5, 0, ⟨#[]⟩, s.size, s.size⟩ : Tk).enc := rfl
    rw [he, happ]
    refine .ret (.inr ⟨_, rfl, ⟨by simp, by simp; omega, fun b hb => ?_⟩, by simp; omega⟩)
    unfold now
    rw [List.getD_eq_getElem?_getD]
    simp at hb
    by_cases h : b = ts.length
    · subst h; simp
    · rw [List.getElem?_eq_none (by simp; omega)]; rfl
end Go.Proofs.Ytkimdfpmblhapaa.Va

/- The parser: declarations, modules. -/
set_option linter.unusedVariables false
set_option linter.unusedSimpArgs false
namespace Go.Proofs.Ytkimdfpmblhapaa.Va
def GPart (t : T) : Prop := t.k = 34 ∧ ∀ x ∈ t.l, GE x
/-- A declaration. -/
inductive GD : T → Prop where
  | rec_ (n f t : Int) (s : ByteArray) (l : List T) (h : ∀ x ∈ l, GPart x) : GD (.mk 30 n s l f t)
  | short (k n f t : Int) (s : ByteArray) (l : List T) (hk : k = 31 ∨ k = 32) (h : ∀ x ∈ l, GE x) : GD (.mk k n s l f t)
  | fn (n f t : Int) (s : ByteArray) (p x b : T) (h0 : p.k = 35 ∧ p.n = 0 ∧ p.s = ⟨#[]⟩) (h1 : ∀ y ∈ p.l, GPart y) (h2 : GE x) (h3 : b.k = 29) (h4 : GS b) : GD (.mk 33 n s [p, x, b] f t)
variable {l : List Tk}
theorem inR_wrap1 {a n : Nat} (h : a + 1 < n) (h2 : a ≤ 100000) : inR (IntKind.i64.wrap ((a : Int) + 1)) n = true := by
  rw [show IntKind.i64.wrap ((a : Int) + 1) = ((a + 1 : Nat) : Int) from wrapN a 1 (by omega)]
  exact inR_nat h
theorem part0_ev (hT : Toks l) (a : Nat) (ha : a < l.length) : EvP (fun n => F50 n (tokD l) (.int a)) (PR l.length a (fun t b => GPart t ∧ t.size ≤ 2 * (b - a))) := by
  have hs := hT.small
  refine .step (fun n => F50_eq n _ _) ?_
  refine .bindE (now_ev l a) ?_
  simp only [List.getD_cons_zero, tk_cell0, D.toInt, tokD_len]
  rw [wrap1 (by omega), wrap2 (by omega)]
  refine .ite (fun _ => ret_bad a ha) (fun h => ?_)
  have h1 := hT.lt (a := a) (by simp at h; rw [h]; decide)
  refine .bindE (sign_ev l (a + 1) _) ?_
  simp only [List.getD_cons_zero, D.toBool]
  refine .ite (fun _ => ret_bad (a + 1) h1) (fun h => ?_)
  have h2 := hT.sign (a := a + 1) (s := ⟨#[58]⟩) (by simpa using h)
  refine PR.split (type_ev hT _ (a + 2) (Nat.le_refl _) h2) (fun x b e h4 h5 h6 h7 => ?_) (fun t b h4 h5 h6 => ?_)
  · simp only [List.getD_cons_zero, h5, D.toInt]
    exact .ite (fun _ => .ret (PR.bad b e h4 h5 h6 h7)) (fun h => absurd h6 (by simpa using h))
  · simp only [List.getD_cons_zero, okD_T, okD_7, okD_6, D.toInt]
    refine .ite (fun h => absurd h (by decide)) (fun _ => .ite (fun _ => ?_) (fun h => absurd (inR_nat ha) h))
    rw [show ((a : Int).toNat) = a by omega, tokD_get l ha, tk_cell2]
    have := h6.2
    exact ret_make hT a b ha (by omega) h5 34 0 _ [t] fun f t' => ⟨⟨rfl, fun x hx => by
      have hx : x ∈ [t] := hx
      rw [List.mem_singleton] at hx
      subst hx
      exact h6.1⟩, by rw [size_mk]; simp only [sizes]; omega⟩
def PF (N at_ : Nat) (i : Nat) (r : R) : Prop := ∃ (ts : List T) (a : Nat) (e : Int), r = (i, [.sl (encs ts), .int a, .int e]) ∧ a < N ∧ (e ≠ 0 ∨ (at_ < a ∧ (∀ x ∈ ts, GPart x) ∧ sizes ts ≤ 2 * (a - at_)))
theorem fields_loop (hT : Toks l) (a : Nat) : ∀ (d c : Nat) (ts : List T), l.length - c ≤ d → a ≤ c → c < l.length → (∀ x ∈ ts, GPart x) → sizes ts ≤ 2 * (c - a) → (ts ≠ [] → a < c) →
    EvP2 (fun n k => L31_2 n (tokD l) k [.sl (encs ts), .int c]) (fun r => (∃ (ts : List T) (b : Nat) (e : Int), r = (1, [.sl (encs ts), .int b, .int e]) ∧ b < l.length ∧ e ≠ 0) ∨
      ∃ (ts : List T) (b : Nat), r = (2, [.sl (encs ts), .int b]) ∧ a < b ∧ b + 1 < l.length ∧ (∀ x ∈ ts, GPart x) ∧ sizes ts ≤ 2 * (b - a))
  | 0, c, ts, hd, h0, hc, hG, hz, hn => by omega
  | d + 1, c, ts, hd, h0, hc, hG, hz, hn => by
    have hs := hT.small
    refine .step (fun n k => L31_2_s n k _ _ _) ?_
    simp only [toL_sl]
    refine .bind (Q1 := fun r => ∃ b : Bool, r = (0, [.bool b]) ∧ (b = false → ts ≠ [] ∧ c + 1 < l.length)) ?_ ?_
    · refine .ite (fun h => ?_) (fun _ => .ret ⟨_, rfl, fun h => by cases h⟩)
      refine .bindE (sign_ev l c _) ?_
      refine .ret ⟨_, rfl, fun h2 => ⟨?_, ?_⟩⟩
      · rintro rfl
        exact absurd h (by decide)
      · have h2 : (!isSign l c ⟨#[125]⟩) = false := h2
        exact hT.sign (a := c) (s := ⟨#[125]⟩) (by simpa using h2)
    rintro _ ⟨b, rfl, hb⟩
    simp only [List.getD_cons_zero, D.toBool]
    refine .ite (fun h => ?_) (fun h => ?_)
    · refine PR.split2 (part0_ev hT c hc) (fun x b e h4 h5 h6 h7 => ?_) (fun t b h4 h5 h6 => ?_)
      · simp only [List.getD_cons_zero, h5, h4, D.toInt]
        exact .ite (fun _ => .ret (.inl ⟨ts, b, e, rfl, h7, h6⟩)) (fun h => absurd h6 (by simpa using h))
      · simp only [List.getD_cons_zero, okD_T, okD_7, okD_6, D.toInt]
        refine .ite (fun h => absurd h (by decide)) (fun _ => ?_)
        refine .bindE (sign_ev l b _) ?_
        simp only [List.getD_cons_zero, D.toBool]
        refine .ite (fun _ => .ret (.inl ⟨ts, b, 6, rfl, h5, by decide⟩)) (fun h8 => ?_)
        have h9 := hT.sign (a := b) (s := ⟨#[59]⟩) (by simpa using h8)
        have hlen := length_le_sizes ts
        refine .ite (fun _ => ?_) (fun h => absurd (by simp [encs_length]; omega) h)
        have happ : encs ts ++ [t.enc] = encs (ts ++ [t]) := by rw [encs_append]; rfl
        rw [happ, wrap1 (by omega)]
        have := h6.2
        exact fields_loop hT a d (b + 1) (ts ++ [t]) (by omega) (by omega) h9 (fun x hx => by
          rcases List.mem_append.1 hx with hx | hx
          · exact hG x hx
          · rw [List.mem_singleton] at hx; subst hx; exact h6.1) (by rw [sizes_append]; simp only [sizes]; omega) (fun _ => by omega)
    · obtain ⟨h1, h2⟩ := hb (by simpa using h)
      exact .ret (.inr ⟨ts, c, rfl, hn h1, h2, hG, hz⟩)
theorem fields_ev (hT : Toks l) (a : Nat) (ha : a < l.length) : EvP (fun n => F31 n (tokD l) (.int a)) (PF l.length a 0) := by
  have hs := hT.small
  refine .step (fun n => F31_eq n _ _) ?_
  refine .bind (fields_loop hT a _ a [] (Nat.le_refl _) (Nat.le_refl _) ha (fun x hx => by cases hx) (Nat.zero_le _) (fun h => absurd rfl h)).diag ?_
  rintro _ (⟨ts, b, e, rfl, h1, h2⟩ | ⟨ts, b, rfl, h1, h2, h3, h4⟩)
  · exact .ite (fun _ => .ret ⟨ts, b, e, rfl, h1, .inl h2⟩) (fun h => absurd rfl h)
  · refine .ite (fun h => absurd h (by simp)) (fun _ => .ite (fun _ => ?_) (fun h => absurd rfl h))
    simp only [List.getD_cons_zero, List.getD_cons_succ, D.toInt]
    rw [wrap1 (by omega)]
    exact .ret ⟨ts, b + 1, 0, rfl, h2, .inr ⟨by omega, h3, by omega⟩⟩
theorem params_loop (hT : Toks l) (a : Nat) (x1 y3 : D) : ∀ (d c : Nat) (ts : List T), l.length - c ≤ d → a < c → c < l.length → (∀ x ∈ ts, GPart x) → sizes ts ≤ 2 * (c - a - 1) →
    EvP2 (fun n k => L48_7 n (tokD l) x1 k [.sl (encs ts), .int c, .bool true, y3]) (fun r => (∃ d, r = (1, [d]) ∧ ∃ (b : Nat) (e : Int), d.cell 6 = .int b ∧ d.cell 7 = .int e ∧ e ≠ 0 ∧ b < l.length) ∨
      ∃ (ts : List T) (b : Nat), r = (2, [.sl (encs ts), .int b, y3]) ∧ a < b ∧ b < l.length ∧ (∀ x ∈ ts, GPart x) ∧ sizes ts ≤ 2 * (b - a - 1))
  | 0, c, ts, hd, h0, hc, hG, hz => by omega
  | d + 1, c, ts, hd, h0, hc, hG, hz => by
    have hs := hT.small
    refine .step (fun n k => L48_7_s n k _ _ _ _ _ _) ?_
    simp only [toL_sl, D.toBool]
    refine .ite (fun _ => ?_) (fun h => absurd trivial h)
    refine PR.split2 (part0_ev hT c hc) (fun x b e h4 h5 h6 h7 => ?_) (fun t b h4 h5 h6 => ?_)
    · simp only [List.getD_cons_zero, h5, D.toInt]
      exact .ite (fun _ => .ret (.inl ⟨x, rfl, b, e, h4, h5, h6, h7⟩)) (fun h => absurd h6 (by simpa using h))
    · simp only [List.getD_cons_zero, okD_T, okD_7, okD_6, D.toInt]
      refine .ite (fun h => absurd h (by decide)) (fun _ => ?_)
      have hlen := length_le_sizes ts
      refine .ite (fun _ => ?_) (fun h => absurd (by simp [encs_length]; omega) h)
      have happ : encs ts ++ [t.enc] = encs (ts ++ [t]) := by rw [encs_append]; rfl
      rw [happ, wrap1 (by omega)]
      have := h6.2
      have hG' : ∀ x ∈ ts ++ [t], GPart x := fun x hx => by
        rcases List.mem_append.1 hx with hx | hx
        · exact hG x hx
        · rw [List.mem_singleton] at hx; subst hx; exact h6.1
      have hz' : sizes (ts ++ [t]) ≤ 2 * (b - a - 1) := by rw [sizes_append]; simp only [sizes]; omega
      refine .bindE (sign_ev l b _) ?_
      simp only [List.getD_cons_zero, D.toBool]
      cases hb : isSign l b ⟨#[44]⟩ with
      | true =>
        have h9 := hT.sign hb
        refine .bindE (r1 := (0, [.int ((b + 1 : Nat) : Int)])) (.pos rfl (.ret _ _)) ?_
        exact params_loop hT a x1 y3 d (b + 1) (ts ++ [t]) (by omega) (by omega) h9 hG' (by omega)
      | false =>
        refine .bindE (r1 := (0, [.int b])) (.neg (by simp) (.ret _ _)) ?_
        refine .step (fun n k => L48_7_s n k _ _ _ _ _ _) ?_
        refine .ite (fun h => absurd h (by decide)) (fun _ => ?_)
        exact .ret (.inr ⟨ts ++ [t], b, rfl, by omega, h5, hG', hz'⟩)
def QP (at_ : Nat) (t : T) (a : Nat) : Prop := ((t.k = 35 ∧ t.n = 0 ∧ t.s = ⟨#[]⟩) ∧ ∀ y ∈ t.l, GPart y) ∧ t.size ≤ 2 * (a - at_)
theorem params_ev (hT : Toks l) (a : Nat) (ha : a < l.length) : EvP (fun n => F48 n (tokD l) (.int a)) (PR l.length a (QP a)) := by
  have hs := hT.small
  refine .step (fun n => F48_eq n _ _) ?_
  refine .bindE (sign_ev l a _) ?_
  simp only [List.getD_cons_zero, D.toBool, D.toInt]
  have hw : IntKind.i64.wrap ((a : Int) + 1) = ((a + 1 : Nat) : Int) := wrapN a 1 (by omega)
  rw [hw, wrap1 (by omega)]
  refine .ite (fun _ => ret_bad a ha) (fun h => ?_)
  have h1 := hT.sign (a := a) (s := ⟨#[40]⟩) (by simpa using h)
  refine .bindE (sign_ev l (a + 1) _) ?_
  simp only [List.getD_cons_zero, D.toBool]
  refine .ite (fun h => ?_) (fun h => ?_)
  · refine .bind (params_loop hT a _ _ _ (a + 1) [] (Nat.le_refl _) (by omega) h1 (fun x hx => by cases hx) (Nat.zero_le _)).diag ?_
    rintro _ (⟨d, rfl, b, e, h2, h3, h4, h5⟩ | ⟨ts, b, rfl, h2, h3, h4, h5⟩)
    · exact .ite (fun _ => .ret (PR.bad b e h2 h3 h4 h5)) (fun h => absurd rfl h)
    · refine .ite (fun h => absurd h (by simp)) (fun _ => .ite (fun _ => ?_) (fun h => absurd rfl h))
      simp only [List.getD_cons_zero, List.getD_cons_succ, D.toInt]
      refine .bindE (sign_ev l b _) ?_
      simp only [List.getD_cons_zero, D.toBool]
      refine .ite (fun _ => ret_bad b h3) (fun h6 => ?_)
      have h7 := hT.sign (a := b) (s := ⟨#[41]⟩) (by simpa using h6)
      rw [wrap1 (by omega)]
      exact ret_make hT a (b + 1) ha (by omega) h7 35 0 _ ts fun f t => ⟨⟨⟨rfl, rfl, rfl⟩, h4⟩, by rw [size_mk]; omega⟩
  · have h7 := hT.sign (a := a + 1) (s := ⟨#[41]⟩) (by simpa using h)
    exact ret_make hT a (a + 1 + 1) ha (by omega) (by omega) 35 0 _ [] fun f t => ⟨⟨⟨rfl, rfl, rfl⟩, fun y hy => by cases hy⟩, by rw [size_mk]; simp only [sizes]; omega⟩
def QD (at_ : Nat) (t : T) (a : Nat) : Prop := GD t ∧ t.size ≤ 2 * (a - at_)
theorem fn_ev (hT : Toks l) (a0 a : Nat) (h0 : a0 ≤ a) (ha : a < l.length) (pub : Int) : EvP (fun n => F27 n (tokD l) (.int a0) (.int a) (.int pub)) (PR l.length a0 (QD a0)) := by
  have hs := hT.small
  refine .step (fun n => F27_eq n _ _ _ _) ?_
  refine .bindE (word_ev l a _) ?_
  simp only [List.getD_cons_zero, D.toBool, D.toInt, tokD_len]
  have hw : IntKind.i64.wrap ((a : Int) + 1) = ((a + 1 : Nat) : Int) := wrapN a 1 (by omega)
  simp only [hw]
  rw [wrap2 (by omega)]
  refine .ite (fun _ => ret_bad a ha) (fun h => ?_)
  have h1 := hT.word (a := a) (s := ⟨#[102, 110]⟩) (by simpa using h)
  refine .bindE (now_ev l (a + 1)) ?_
  simp only [List.getD_cons_zero, tk_cell0, D.toInt]
  refine .ite (fun _ => ret_bad (a + 1) h1) (fun h => ?_)
  have h2 := hT.lt (a := a + 1) (by simp at h; rw [h]; decide)
  refine PR.split (params_ev hT (a + 2) h2) (fun x b e h4 h5 h6 h7 => ?_) (fun p b h4 h5 h6 => ?_)
  · simp only [List.getD_cons_zero, h5, D.toInt]
    exact .ite (fun _ => .ret (PR.bad b e h4 h5 h6 h7)) (fun h => absurd h6 (by simpa using h))
  simp only [List.getD_cons_zero, okD_T, okD_7, okD_6, D.toInt]
  refine .ite (fun h => absurd h (by decide)) (fun _ => ?_)
  refine .bindE (sign_ev l b _) ?_
  simp only [List.getD_cons_zero, D.toBool]
  refine .ite (fun _ => ret_bad b h5) (fun h => ?_)
  have h7 := hT.sign (a := b) (s := ⟨#[58]⟩) (by simpa using h)
  rw [wrap1 (by omega)]
  refine PR.split (type_ev hT _ (b + 1) (Nat.le_refl _) h7) (fun x b e h4 h5 h6 h7 => ?_) (fun x c h8 h9 h10 => ?_)
  · simp only [List.getD_cons_zero, h5, D.toInt]
    exact .ite (fun _ => .ret (PR.bad b e h4 h5 h6 h7)) (fun h => absurd h6 (by simpa using h))
  simp only [List.getD_cons_zero, okD_T, okD_7, okD_6, D.toInt]
  refine .ite (fun h => absurd h (by decide)) (fun _ => ?_)
  refine PR.split (blocks_ev hT c h9) (fun x b e h4 h5 h6 h7 => ?_) (fun y d h11 h12 h13 => ?_)
  · simp only [List.getD_cons_zero, h5, D.toInt]
    exact .ite (fun _ => .ret (PR.bad b e h4 h5 h6 h7)) (fun h => absurd h6 (by simpa using h))
  simp only [List.getD_cons_zero, okD_T, okD_7, okD_6, D.toInt]
  refine .ite (fun h => absurd h (by decide)) (fun _ => .ite (fun _ => ?_) (fun h => absurd (inR_nat h1) h))
  rw [show (((a + 1 : Nat) : Int).toNat) = a + 1 by omega, tokD_get l h1, tk_cell2]
  have q1 := h6.2
  have q2 := h10.2
  have q3 := h13.2
  exact ret_make hT a0 d (by omega) (by omega) h12 33 pub _ [p, x, y] fun f t => ⟨.fn _ _ _ _ p x y h6.1.1 h6.1.2 h10.1 h13.1.1 h13.1.2, by rw [size_mk]; simp only [sizes]; omega⟩
theorem short_ev (hT : Toks l) (a : Nat) (ha : a + 1 < l.length) : EvP (fun n => F26 n (tokD l) (.int a)) (PR l.length a (QD a)) := by
  have hs := hT.small
  refine .step (fun n => F26_eq n _ _) ?_
  simp only [D.toInt, tokD_len]
  have hw : IntKind.i64.wrap ((a : Int) + 1) = ((a + 1 : Nat) : Int) := wrapN a 1 (by omega)
  simp only [hw]
  rw [wrap2 (by omega), wrap3 (by omega)]
  refine .bindE (now_ev l (a + 1)) ?_
  simp only [List.getD_cons_zero, tk_cell0, D.toInt]
  refine .ite (fun _ => ret_bad (a + 1) ha) (fun h => ?_)
  have h2 := hT.lt (a := a + 1) (by simp at h; rw [h]; decide)
  refine .bindE (word_ev l a _) ?_
  simp only [List.getD_cons_zero, D.toBool]
  refine .bind (Q1 := fun r => ∃ (k : Int) (sg : ByteArray), r = (0, [.int k, .str sg]) ∧ (k = 31 ∨ k = 32)) ?_ ?_
  · exact .ite (fun _ => .ret ⟨_, _, rfl, .inl rfl⟩) (fun _ => .ret ⟨_, _, rfl, .inr rfl⟩)
  rintro _ ⟨k, sg, rfl, hk⟩
  simp only [List.getD_cons_zero, List.getD_cons_succ, D.toInt]
  refine .bindE (sign_ev l (a + 2) _) ?_
  simp only [List.getD_cons_zero, D.toBool]
  refine .ite (fun _ => ret_bad (a + 2) h2) (fun h => ?_)
  have h3 := hT.sign (a := a + 2) (s := sg) (by simpa using h)
  have main : EvP (fun n => (if (k == (32 : Int)) = true then ((F46 n (tokD l) (.int ((a + 3 : Nat) : Int))).bind fun r8 => rt 0 [(r8.2.getD 0 (D.int 0))]) else (((F29 n (tokD l) (.int ((a + 3 : Nat) : Int))).bind fun r10 => if ((((r10.2.getD 0 (D.int 0)).cell 0).toInt) == (2 : Int)) = false then ((F25 n (tokD l) (.int ((a + 3 : Nat) : Int)) (D.str (⟨#[116, 114, 117, 101]⟩ : ByteArray))).bind fun r11 => if ((r11.2.getD 0 (D.int 0)).toBool) = false then ((F25 n (tokD l) (.int ((a + 3 : Nat) : Int)) (D.str (⟨#[102, 97, 108, 115, 101]⟩ : ByteArray))).bind fun r12 => rt 0 [D.bool ((r12.2.getD 0 (D.int 0)).toBool)]) else (rt 0 [D.bool true])) else (rt 0 [D.bool true]) : Option R).bind fun r9 => (if ((r9.2.getD 0 (D.int 0)).toBool) = true then ((F47 n (tokD l) (.int ((a + 3 : Nat) : Int))).bind fun r14 => rt 0 [(r14.2.getD 0 (D.int 0))]) else ((F28 n (.int ((a + 3 : Nat) : Int))).bind fun r15 => rt 0 [(r15.2.getD 0 (D.int 0))]) : Option R).bind fun r13 => rt 0 [(r13.2.getD 0 (D.int 0))]) : Option R)) (PR l.length (a + 3) (QE (a + 3))) := by
    refine .ite (fun _ => ?_) (fun _ => ?_)
    · refine .bind (type_ev hT _ (a + 3) (Nat.le_refl _) h3) ?_
      rintro _ ⟨d, rfl, hd⟩
      exact .ret ⟨d, rfl, hd⟩
    refine .bind (Q1 := fun r => ∃ b, r = (0, [.bool b])) ?_ ?_
    · refine .bindE (now_ev l (a + 3)) ?_
      refine .ite (fun _ => ?_) (fun _ => .ret ⟨_, rfl⟩)
      refine .bindE (word_ev l (a + 3) _) ?_
      refine .ite (fun _ => ?_) (fun _ => .ret ⟨_, rfl⟩)
      exact .bindE (word_ev l (a + 3) _) (.ret ⟨_, rfl⟩)
    rintro _ ⟨b, rfl⟩
    refine .bind (Q1 := PR l.length (a + 3) (QE (a + 3))) ?_ ?_
    · refine .ite (fun _ => ?_) (fun _ => ret_bad (a + 3) h3)
      refine .bind (atom_ev hT (a + 3) h3 (fun b _ h => expr_ev hT b h)) ?_
      rintro _ ⟨d, rfl, hd⟩
      exact .ret ⟨d, rfl, hd⟩
    rintro _ ⟨d, rfl, hd⟩
    exact .ret ⟨d, rfl, hd⟩
  refine PR.split main (fun x b e h4 h5 h6 h7 => ?_) (fun t b h4 h5 h6 => ?_)
  · simp only [List.getD_cons_zero, h5, D.toInt]
    exact .ite (fun _ => .ret (PR.bad b e h4 h5 h6 h7)) (fun h => absurd h6 (by simpa using h))
  simp only [List.getD_cons_zero, okD_T, okD_7, okD_6, D.toInt]
  refine .ite (fun h => absurd h (by decide)) (fun _ => ?_)
  refine .bindE (sign_ev l b _) ?_
  simp only [List.getD_cons_zero, D.toBool]
  refine .ite (fun _ => ret_bad b h5) (fun h => ?_)
  have h7 := hT.sign (a := b) (s := ⟨#[59]⟩) (by simpa using h)
  refine .ite (fun _ => ?_) (fun h => absurd (inR_nat ha) h)
  rw [show (((a + 1 : Nat) : Int).toNat) = a + 1 by omega, tokD_get l ha, tk_cell2, wrap1 (by omega)]
  have q1 := h6.2
  exact ret_make hT a (b + 1) (by omega) (by omega) h7 k 0 _ [t] fun f t' => ⟨.short k _ _ _ _ _ hk (fun x hx => by
    rw [List.mem_singleton] at hx
    subst hx
    exact h6.1), by rw [size_mk]; simp only [sizes]; omega⟩
end Go.Proofs.Ytkimdfpmblhapaa.Va

/- The parser: what a text's module is. -/
set_option linter.unusedVariables false
set_option linter.unusedSimpArgs false
namespace Go.Proofs.Ytkimdfpmblhapaa.Va
variable {l : List Tk}
theorem decl_ev (hT : Toks l) (a : Nat) (ha : a < l.length) : EvP (fun n => F16 n (tokD l) (.int a)) (PR l.length a (QD a)) := by
  have hs := hT.small
  refine .step (fun n => F16_eq n _ _) ?_
  refine .bind (Q1 := fun r => ∃ b, r = (0, [.bool b]) ∧ (b = true → a + 1 < l.length)) ?_ ?_
  · refine .bindE (word_ev l a _) ?_
    simp only [List.getD_cons_zero, D.toBool]
    refine .ite (fun _ => ?_) (fun h => .ret ⟨_, rfl, fun _ => hT.word (a := a) (s := ⟨#[99, 111, 110, 115, 116]⟩) (by simpa using h)⟩)
    refine .bindE (word_ev l a _) ?_
    exact .ret ⟨_, rfl, fun h => hT.word h⟩
  rintro _ ⟨b, rfl, hb⟩
  simp only [List.getD_cons_zero, D.toBool, D.toInt, tokD_len]
  have hw : IntKind.i64.wrap ((a : Int) + 1) = ((a + 1 : Nat) : Int) := wrapN a 1 (by omega)
  simp only [hw]
  rw [wrap2 (by omega), wrap3 (by omega)]
  have last : ∀ (g : Nat → Option R), EvP g (PR l.length a (QD a)) → EvP (fun n => (g n).bind fun r => rt 0 [r.2.getD 0 (D.int 0)]) (PR l.length a (QD a)) := fun g hg => by
    refine .bind hg ?_
    rintro _ ⟨d, rfl, hd⟩
    exact .ret ⟨d, rfl, hd⟩
  refine .ite (fun h => last _ (short_ev hT a (hb h))) (fun _ => ?_)
  refine .bindE (word_ev l a _) ?_
  simp only [List.getD_cons_zero, D.toBool]
  refine .ite (fun h => last _ (fn_ev hT a (a + 1) (by omega) (hT.word h) 1)) (fun _ => ?_)
  refine .bindE (word_ev l a _) ?_
  simp only [List.getD_cons_zero, D.toBool]
  refine .ite (fun h => last _ (fn_ev hT a a (Nat.le_refl _) ha 0)) (fun _ => ?_)
  refine .bindE (word_ev l a _) ?_
  simp only [List.getD_cons_zero, D.toBool]
  refine .ite (fun _ => ret_bad a ha) (fun h => ?_)
  have h1 := hT.word (a := a) (s := ⟨#[114, 101, 99]⟩) (by simpa using h)
  refine .bindE (now_ev l (a + 1)) ?_
  simp only [List.getD_cons_zero, tk_cell0, D.toInt]
  refine .ite (fun _ => ret_bad (a + 1) h1) (fun h => ?_)
  have h2 := hT.lt (a := a + 1) (by simp at h; rw [h]; decide)
  refine .bindE (sign_ev l (a + 2) _) ?_
  simp only [List.getD_cons_zero, D.toBool]
  refine .ite (fun _ => ret_bad (a + 2) h2) (fun h => ?_)
  have h3 := hT.sign (a := a + 2) (s := ⟨#[123]⟩) (by simpa using h)
  refine .bind (fields_ev hT (a + 3) h3) ?_
  rintro _ ⟨ts, b, e, rfl, h4, h5⟩
  simp only [List.getD_cons_zero, List.getD_cons_succ, D.toInt]
  refine .ite (fun h => .ret (PR.bad b e rfl rfl (by simpa using h) h4)) (fun h => ?_)
  have he : e = 0 := by simpa using h
  obtain ⟨h6, h7, h8⟩ := h5.resolve_left (fun h => h he)
  refine .ite (fun _ => ?_) (fun h => absurd (inR_nat h1) h)
  rw [show (((a + 1 : Nat) : Int).toNat) = a + 1 by omega, tokD_get l h1, tk_cell2]
  exact ret_make hT a b ha (by omega) h4 30 0 _ ts fun f t => ⟨.rec_ _ _ _ _ _ h7, by rw [size_mk]; omega⟩
theorem size_mem : ∀ {ts : List T} {x : T}, x ∈ ts → x.size ≤ sizes ts
  | y :: r, x, h => by
    unfold sizes
    rcases List.mem_cons.1 h with h | h
    · subst h; omega
    · have := size_mem h; omega
theorem size_eq (x : T) : x.size = sizes x.l + 1 := by cases x; unfold T.size; rfl
def DepthR (i B : Nat) (r : R) : Prop := ∃ d : Nat, r = (i, [.int d]) ∧ d ≤ B
theorem depth_ev : ∀ (b : Nat) (x : T), x.size ≤ b → b ≤ 100000 → EvP (fun n => F17 n x.enc) (DepthR 0 x.size)
  | 0, x, h, hb => by have := size_eq x; omega
  | b + 1, x, h, hb => by
    have hx := size_eq x
    have hlen := length_le_sizes x.l
    have loop : ∀ (d i m : Nat), x.l.length - i ≤ d → i ≤ x.l.length → m ≤ sizes x.l → EvP2 (fun n k => L17_3 n x.enc k [.int m, .int i]) (DepthR 1 (sizes x.l)) := by
      intro d
      induction d with
      | zero =>
        intro i m hd hi hm
        refine .step (fun n k => L17_3_s n k _ _ _) ?_
        simp only [T.cell3, toL_sl, encs_length, D.toInt]
        refine .ite (fun h => ?_) (fun _ => .ret ⟨m, rfl, hm⟩)
        simp at h; omega
      | succ d ih =>
        intro i m hd hi hm
        refine .step (fun n k => L17_3_s n k _ _ _) ?_
        simp only [T.cell3, toL_sl, encs_length, D.toInt]
        refine .ite (fun h => ?_) (fun _ => .ret ⟨m, rfl, hm⟩)
        have hlt : i < x.l.length := by simpa using h
        refine .ite (fun _ => ?_) (fun h => absurd (inR_nat hlt) h)
        rw [show ((i : Int).toNat) = i by omega, encs_getD _ _ hlt]
        have hsz := size_mem (List.getElem_mem hlt)
        refine .bind (depth_ev b (x.l[i]) (by omega) (by omega)) ?_
        rintro _ ⟨e, rfl, he⟩
        refine .bind (Q1 := DepthR 0 (sizes x.l)) ?_ ?_
        · simp only [List.getD_cons_zero, D.toInt]
          exact .ite (fun _ => .ret ⟨e, rfl, by omega⟩) (fun _ => .ret ⟨m, rfl, hm⟩)
        rintro _ ⟨m', rfl, hm'⟩
        rw [wrap1 (by omega)]
        exact ih (i + 1) m' (by omega) (by omega) hm'
    refine .step (fun n => F17_eq n _) ?_
    refine .bind (loop _ 0 0 (Nat.le_refl _) (Nat.zero_le _) (Nat.zero_le _)).diag ?_
    rintro _ ⟨d, rfl, hd⟩
    refine .ite (fun _ => ?_) (fun h => absurd rfl h)
    simp only [List.getD_cons_zero, D.toInt]
    rw [wrap1 (by omega)]
    exact .ret ⟨d + 1, rfl, by omega⟩
theorem parse_loop (hT : Toks l) (x0 y2 : D) : ∀ (d a : Nat) (ts : List T), l.length - a ≤ d → a < l.length → (∀ x ∈ ts, GD x) → sizes ts ≤ 2 * a →
    EvP2 (fun n k => L7_6 n x0 (tokD l) k [.sl (encs ts), .int a, y2]) (fun r => (∃ d e y, r = (1, [d, .int e, y]) ∧ e ≠ 0) ∨ ∃ ts : List T, r = (2, [.sl (encs ts), y2]) ∧ (∀ x ∈ ts, GD x) ∧ sizes ts ≤ 2 * l.length)
  | 0, a, ts, hd, ha, hG, hz => by omega
  | d + 1, a, ts, hd, ha, hG, hz => by
    have hs := hT.small
    refine .step (fun n k => L7_6_s n k _ _ _ _ _) ?_
    have hw : IntKind.i64.wrap ((l.length : Int) - 1) = ((l.length - 1 : Nat) : Int) := wrapS hT.pos (by omega)
    simp only [D.toInt, tokD_len, hw, toL_sl]
    refine .ite (fun h => ?_) (fun _ => .ret (.inr ⟨ts, rfl, hG, by omega⟩))
    refine PR.split2 (decl_ev hT a ha) (fun x b e h4 h5 h6 h7 => ?_) (fun t b h4 h5 h6 => ?_)
    · simp only [List.getD_cons_zero, h5, h4, D.toInt]
      refine .ite (fun _ => ?_) (fun h => absurd h6 (by simpa using h))
      exact .ite (fun _ => .ret (.inl ⟨_, e, _, rfl, h6⟩)) (fun h => absurd (inR_nat h7) h)
    · simp only [List.getD_cons_zero, okD_T, okD_7, okD_6, D.toInt]
      refine .ite (fun h => absurd h (by decide)) (fun _ => ?_)
      have hlen := length_le_sizes ts
      refine .ite (fun _ => ?_) (fun h => absurd (by simp [encs_length]; omega) h)
      have happ : encs ts ++ [t.enc] = encs (ts ++ [t]) := by rw [encs_append]; rfl
      rw [happ]
      have := h6.2
      exact parse_loop hT x0 y2 d b (ts ++ [t]) (by omega) h5 (fun x hx => by
        rcases List.mem_append.1 hx with hx | hx
        · exact hG x hx
        · rw [List.mem_singleton] at hx; subst hx; exact h6.1) (by rw [sizes_append]; simp only [sizes]; omega)
/-- A module that a text has. -/
structure GM (m : T) : Prop where
  k : m.k = 36
  n : m.n = 0
  s : m.s = ⟨#[]⟩
  len : m.l.length ≤ 64
  ds : ∀ x ∈ m.l, GD x
  size : m.size ≤ 20000
theorem parse_ev (s : ByteArray) (hs : s.size ≤ 8192) : EvP (fun n => F7 n (.str s)) (fun r => (∃ d1 d2 e, r = (0, [d1, d2, .int e]) ∧ e ≠ 0) ∨ ∃ m : T, r = (0, [m.enc, .int 0, .int 0]) ∧ GM m) := by
  refine .step (fun n => F7_eq n _) ?_
  refine .bind (tokens_ev hs) ?_
  rintro _ (⟨d1, d2, e, rfl, he⟩ | ⟨ts, rfl, hT, hl⟩)
  · simp only [List.getD_cons_zero, List.getD_cons_succ, D.toInt]
    exact .ite (fun _ => .ret (.inl ⟨_, _, e, rfl, he⟩)) (fun h => absurd he (by simpa using h))
  simp only [List.getD_cons_zero, List.getD_cons_succ, D.toInt, D.toStr]
  refine .ite (fun h => absurd h (by decide)) (fun _ => ?_)
  refine .bind (parse_loop hT _ _ _ 0 [] (Nat.le_refl _) hT.pos (fun x hx => by cases hx) (Nat.zero_le _)).diag ?_
  rintro _ (⟨d, e, y, rfl, he⟩ | ⟨ds, rfl, hG, hz⟩)
  · exact .ite (fun _ => .ret (.inl ⟨_, _, e, rfl, he⟩)) (fun h => absurd rfl h)
  refine .ite (fun h => absurd h (by simp)) (fun _ => .ite (fun _ => ?_) (fun h => absurd rfl h))
  simp only [List.getD_cons_zero, toL_sl, encs_length]
  refine .ite (fun _ => .ret (.inl ⟨_, _, 11, rfl, by decide⟩)) (fun h => ?_)
  have hlen : ds.length ≤ 64 := by simp at h; omega
  have hm : D.agg [D.int 36, D.int 0, D.str ⟨#[]⟩, D.sl (encs ds), D.int 0, D.int (s.size : Int)] = (T.mk 36 0 ⟨#[]⟩ ds 0 s.size).enc := rfl
  rw [hm]
  have hsm := hT.small
  have hsz : (T.mk 36 0 ⟨#[]⟩ ds 0 s.size).size ≤ 20000 := by rw [size_mk]; omega
  refine .bind (depth_ev _ _ (Nat.le_refl _) (by omega)) ?_
  rintro _ ⟨d, rfl, hd⟩
  exact .ite (fun _ => .ret (.inl ⟨_, _, 7, rfl, by decide⟩)) (fun _ => .ret (.inr ⟨_, rfl, ⟨rfl, rfl, rfl, hlen, hG, hsz⟩⟩))
end Go.Proofs.Ytkimdfpmblhapaa.Va

/- What a module's resolved form is; the reference comes to it. -/
set_option linter.unusedVariables false
set_option linter.unusedSimpArgs false
namespace Go.Proofs.Ytkimdfpmblhapaa.Va
inductive Res (α : Type) where
  | ok (x : α)
  | bad (a e : Int)
def declN (s : ByteArray) : Nat → List T → Int
  | _, [] => -1
  | i, x :: r => if x.s = s then (i : Int) else declN s (i + 1) r
def declK (s : ByteArray) : List T → Int
  | [] => 0
  | x :: r => if x.s = s then x.k else declK s r
/-- The number of a local, the last one being 0. -/
def localN (s : ByteArray) : Nat → List ByteArray → Int
  | _, [] => -1
  | i, x :: r => if x = s then (i : Int) else localN s (i + 1) r
def nameT (ds : List T) (loc : List ByteArray) (s : ByteArray) (f t : Int) : Res T :=
  if 0 ≤ localN s 0 loc.reverse then .ok (.mk 7 (localN s 0 loc.reverse) ⟨#[]⟩ [] f t)
  else if declK s ds = 31 then .ok (.mk 8 (declN s 0 ds) ⟨#[]⟩ [] f t)
  else if declK s ds = 32 then .ok (.mk 9 (declN s 0 ds) ⟨#[]⟩ [] f t)
  else .bad f 8
def moreT (loc : List ByteArray) (x : T) : List ByteArray := if x.k = 20 ∨ x.k = 21 then loc ++ [x.s] else loc
mutual
def anyT (ds : List T) (loc : List ByteArray) : T → Res T
  | .mk k n s l f t =>
    if k = 19 then nameT ds loc s f t
    else if (k = 16 ∧ declK s ds ≠ 33) ∨ ((k = 15 ∨ k = 4) ∧ declK s ds ≠ 30) then .bad f 8
    else match anyL ds loc k s loc 0 l with
      | .ok l' => .ok (.mk k (if k = 16 ∨ k = 15 ∨ k = 4 then declN s 0 ds else n) (if k = 13 ∨ k = 17 then s else ⟨#[]⟩) l' f t)
      | .bad a e => .bad a e
def anyL (ds : List T) (loc : List ByteArray) (k : Int) (s : ByteArray) (known : List ByteArray) (i : Nat) : List T → Res (List T)
  | [] => .ok []
  | x :: r => match anyT ds (if k = 25 ∧ i = 2 then loc ++ [s] else known) x with
    | .bad a e => .bad a e
    | .ok x' => match anyL ds loc k s (if k = 29 then moreT (if k = 25 ∧ i = 2 then loc ++ [s] else known) x else (if k = 25 ∧ i = 2 then loc ++ [s] else known)) (i + 1) r with
      | .ok r' => .ok (x' :: r')
      | .bad a e => .bad a e
end
def locD (l : List ByteArray) : D := .sl (l.map .str)
theorem locD_len (l : List ByteArray) : (locD l).toL.length = l.length := by simp [locD, D.toL]
theorem cell_agg (l : List D) (j : Nat) : (D.agg l).cell j = l.getD j (.int 0) := rfl
theorem declN_bound (s : ByteArray) : ∀ (l : List T) (i : Nat), declN s i l = -1 ∨ ((i : Int) ≤ declN s i l ∧ declN s i l < (i + l.length : Nat))
  | [], i => .inl rfl
  | x :: r, i => by
    unfold declN
    split
    · exact .inr ⟨Int.le_refl _, by simp; omega⟩
    · rcases declN_bound s r (i + 1) with h | ⟨h1, h2⟩
      · exact .inl h
      · exact .inr ⟨by omega, by simp at h2 ⊢; omega⟩
variable {m : T}
theorem decl_loop (hm : m.l.length ≤ 1000) (s : ByteArray) : ∀ (d i : Nat), m.l.length - i ≤ d → i ≤ m.l.length →
    EvP2 (fun n k => L20_2 n (.str s) m.enc k [.int i]) (fun r => (r = (1, [.int (declN s i (m.l.drop i))]) ∧ 0 ≤ declN s i (m.l.drop i)) ∨ (r = (2, []) ∧ declN s i (m.l.drop i) = -1))
  | d, i, hd, hi => by
    refine .step (fun n k => L20_2_s n k _ _ _) ?_
    simp only [T.cell3, toL_sl, encs_length, D.toInt]
    refine .ite (fun h => ?_) (fun h => .ret (.inr ⟨rfl, ?_⟩))
    · have hlt : i < m.l.length := by simpa using h
      rw [List.drop_eq_getElem_cons hlt]
      refine .ite (fun _ => ?_) (fun h => absurd (inR_nat hlt) h)
      rw [show ((i : Int).toNat) = i by omega, encs_getD _ _ hlt, T.cell2]
      simp only [D.toStr, decide_eq_true_eq]
      refine .ite (fun h => .ret (.inl ⟨?_, ?_⟩)) (fun h => ?_)
      · simp only [declN, if_pos (of_decide_eq_true h)]
      · simp only [declN, if_pos (of_decide_eq_true h)]; omega
      · simp only [declN, if_neg (of_decide_eq_false (by simpa only [Bool.not_eq_true] using h))]
        rw [wrap1 (by omega)]
        match d, hd with
        | 0, hd => omega
        | d + 1, hd => exact decl_loop hm s d (i + 1) (by omega) (by omega)
    · rw [List.drop_of_length_le (by simpa using h)]; rfl
theorem decln_ev (hm : m.l.length ≤ 1000) (s : ByteArray) : Ev (fun n => F20 n m.enc (.str s)) (0, [.int (declN s 0 m.l)]) := by
  have : EvP (fun n => F20 n m.enc (.str s)) (fun r => r = (0, [.int (declN s 0 m.l)])) := by
    refine .step (fun n => F20_eq n _ _) ?_
    refine .bind (decl_loop hm s _ 0 (Nat.le_refl _) (Nat.zero_le _)).diag ?_
    rw [List.drop_zero]
    rintro _ (⟨rfl, h⟩ | ⟨rfl, h⟩)
    · exact .ite (fun _ => .ret rfl) (fun h => absurd rfl h)
    · refine .ite (fun h => absurd h (by decide)) (fun _ => .ite (fun _ => .ret ?_) (fun h => absurd rfl h))
      rw [h]
  obtain ⟨r, h1, rfl⟩ := this
  exact h1
theorem declK_at (s : ByteArray) : ∀ (l : List T) (i : Nat), (declN s i l = -1 → declK s l = 0) ∧ (∀ j : Nat, declN s i l = ((i + j : Nat) : Int) → ∃ h : j < l.length, declK s l = (l[j]).k)
  | [], i => ⟨fun _ => rfl, fun j h => by unfold declN at h; omega⟩
  | x :: r, i => by
    unfold declN declK
    obtain ⟨h1, h2⟩ := declK_at s r (i + 1)
    by_cases hx : x.s = s
    · rw [if_pos hx, if_pos hx]
      refine ⟨fun h => by omega, fun j h => ?_⟩
      have : j = 0 := by omega
      subst this
      exact ⟨by simp, rfl⟩
    · rw [if_neg hx, if_neg hx]
      refine ⟨h1, fun j h => ?_⟩
      rcases declN_bound s r (i + 1) with hb | ⟨hb, _⟩
      · omega
      · obtain ⟨q, hq⟩ := h2 (j - 1) (by rw [h]; omega)
        refine ⟨by simp; omega, ?_⟩
        rw [hq]
        have : (x :: r)[j]'(by simp; omega) = (x :: r)[(j - 1) + 1]'(by simp; omega) := by congr 1; omega
        rw [this]
        rfl
theorem declk_ev (hm : m.l.length ≤ 1000) (s : ByteArray) : Ev (fun n => F57 n m.enc (.str s)) (0, [.int (declK s m.l)]) := by
  have : EvP (fun n => F57 n m.enc (.str s)) (fun r => r = (0, [.int (declK s m.l)])) := by
    refine .step (fun n => F57_eq n _ _) ?_
    refine .bindE (decln_ev hm s) ?_
    simp only [List.getD_cons_zero, D.toInt, T.cell3, toL_sl, encs_length]
    obtain ⟨h1, h2⟩ := declK_at s m.l 0
    rcases declN_bound s m.l 0 with hb | ⟨hb, hb2⟩
    · refine .ite (fun _ => .ret (by rw [h1 hb])) (fun h => absurd (by simp [hb]) h)
    · refine .ite (fun h => ?_) (fun _ => ?_)
      · simp at h; omega
      · obtain ⟨j, hj⟩ : ∃ j : Nat, declN s 0 m.l = (j : Int) := ⟨(declN s 0 m.l).toNat, by omega⟩
        obtain ⟨h3, h4⟩ := h2 j (by rw [hj, Nat.zero_add])
        rw [hj]
        refine .ite (fun _ => ?_) (fun h => absurd (inR_nat h3) h)
        rw [show ((j : Int).toNat) = j by omega, encs_getD _ _ h3, T.cell0]
        exact .ret (by rw [h4])
  obtain ⟨r, h1, rfl⟩ := this
  exact h1
theorem local_loop (loc : List ByteArray) (hl : loc.length ≤ 1000000) (s : ByteArray) : ∀ (d i : Nat), loc.length - i ≤ d → i ≤ loc.length →
    EvP2 (fun n k => L64_2 n (locD loc) (.str s) k [.int i]) (fun r => (r = (1, [.int (localN s i (loc.reverse.drop i))]) ∧ 0 ≤ localN s i (loc.reverse.drop i)) ∨ (r = (2, []) ∧ localN s i (loc.reverse.drop i) = -1))
  | d, i, hd, hi => by
    refine .step (fun n k => L64_2_s n k _ _ _) ?_
    simp only [locD_len, D.toInt, D.toStr]
    refine .ite (fun h => ?_) (fun h => .ret (.inr ⟨rfl, ?_⟩))
    · have hlt : i < loc.length := by simpa using h
      have hw : IntKind.i64.wrap (IntKind.i64.wrap ((loc.length : Int) - 1) - (i : Int)) = ((loc.length - 1 - i : Nat) : Int) := by
        rw [wrap64_of (x := (loc.length : Int) - 1) (by omega) (by omega), wrap64_of (by omega) (by omega)]; omega
      have hlt2 : i < loc.reverse.length := by simpa using hlt
      rw [List.drop_eq_getElem_cons hlt2]
      simp only [hw]
      refine .ite (fun _ => ?_) (fun h => absurd (inR_nat (by omega)) h)
      have hg : (locD loc).toL.getD (((loc.length - 1 - i : Nat) : Int).toNat) (.int 0) = .str (loc.reverse[i]) := by
        rw [show ((((loc.length - 1 - i : Nat) : Int)).toNat) = loc.length - 1 - i by omega]
        have : loc.length - 1 - i < loc.length := by omega
        simp [locD, D.toL, List.getD_eq_getElem?_getD, this]
      rw [hg]
      simp only [decide_eq_true_eq]
      refine .ite (fun h => .ret (.inl ⟨?_, ?_⟩)) (fun h => ?_)
      · simp only [localN, if_pos h]
      · simp only [localN, if_pos h]; omega
      · simp only [localN, if_neg h]
        have hw1 : D.int (IntKind.i64.wrap ((i : Int) + 1)) = .int ((i + 1 : Nat) : Int) := congrArg _ (wrapN i 1 (by omega))
        rw [hw1]
        match d, hd with
        | 0, hd => omega
        | d + 1, hd => exact local_loop loc hl s d (i + 1) (by omega) (by omega)
    · rw [List.drop_of_length_le (by simpa using h)]; rfl
theorem local_ev (loc : List ByteArray) (hl : loc.length ≤ 1000000) (s : ByteArray) : Ev (fun n => F64 n (locD loc) (.str s)) (0, [.int (localN s 0 loc.reverse)]) := by
  have : EvP (fun n => F64 n (locD loc) (.str s)) (fun r => r = (0, [.int (localN s 0 loc.reverse)])) := by
    refine .step (fun n => F64_eq n _ _) ?_
    refine .bind (local_loop loc hl s _ 0 (Nat.le_refl _) (Nat.zero_le _)).diag ?_
    rw [List.drop_zero]
    rintro _ (⟨rfl, h⟩ | ⟨rfl, h⟩)
    · exact .ite (fun _ => .ret rfl) (fun h => absurd rfl h)
    · refine .ite (fun h => absurd h (by decide)) (fun _ => .ite (fun _ => .ret ?_) (fun h => absurd rfl h))
      rw [h]
  obtain ⟨r, h1, rfl⟩ := this
  exact h1
/-- How a term, or an error, stands as data. -/
def gotA (r : Res T) (d : D) : Prop := match r with
  | .ok t => d = okD t 0
  | .bad a e => d.cell 6 = .int a ∧ d.cell 7 = .int e ∧ e ≠ 0
def GotA (r : Res T) (x : R) : Prop := ∃ d, x = (0, [d]) ∧ gotA r d
theorem bad0_ev (x : T) (e : Int) : Ev (fun n => F58 n x.enc (.int e)) (0, [.agg [.int 0, .int 0, .str ⟨#[]⟩, .sl [], .int 0, .int 0, .int x.f, .int e]]) := by
  refine .step (fun n => F58_eq n _ _) ?_
  rw [T.cell4]
  exact .ret _ _
theorem name_ev (hm : m.l.length ≤ 1000) (loc : List ByteArray) (hl : loc.length ≤ 1000000) (x : T) : EvP (fun n => F56 n m.enc (locD loc) x.enc) (GotA (nameT m.l loc x.s x.f x.t)) := by
  refine .step (fun n => F56_eq n _ _ _) ?_
  simp only [T.cell2, T.cell4, T.cell5]
  refine .bindE (local_ev loc hl x.s) ?_
  simp only [List.getD_cons_zero, D.toInt]
  unfold nameT
  refine .ite (fun h => .ret ⟨_, rfl, ?_⟩) (fun h => ?_)
  · rw [if_pos (by simpa using h)]; rfl
  rw [if_neg (by simpa using h)]
  refine .bindE (declk_ev hm x.s) ?_
  simp only [List.getD_cons_zero, D.toInt, beq_iff_eq]
  refine .ite (fun h => ?_) (fun h => ?_)
  · refine .bindE (decln_ev hm x.s) (.ret ⟨_, rfl, ?_⟩)
    rw [if_pos h]; rfl
  rw [if_neg h]
  refine .bindE (declk_ev hm x.s) ?_
  simp only [List.getD_cons_zero, D.toInt, beq_iff_eq]
  refine .ite (fun h => ?_) (fun h => ?_)
  · refine .bindE (decln_ev hm x.s) (.ret ⟨_, rfl, ?_⟩)
    rw [if_pos h]; rfl
  rw [if_neg h]
  refine .bindE (bad0_ev x 8) (.ret ⟨_, rfl, ?_⟩)
  exact ⟨rfl, rfl, by decide⟩
theorem locD_snoc (loc : List ByteArray) (s : ByteArray) : D.sl ((([] : List D) ++ (locD loc).toL) ++ [D.str s]) = locD (loc ++ [s]) := by
  unfold locD; simp [D.toL]
theorem more_ev (loc : List ByteArray) (hl : loc.length ≤ 1000000) (x : T) : Ev (fun n => F59 n (locD loc) x.enc) (0, [locD (moreT loc x)]) := by
  have : EvP (fun n => F59 n (locD loc) x.enc) (fun r => r = (0, [locD (moreT loc x)])) := by
    refine .step (fun n => F59_eq n _ _) ?_
    simp only [T.cell0, T.cell2, D.toInt]
    refine .bind (Q1 := fun r => r = (0, [.bool (decide (x.k = 20 ∨ x.k = 21))])) ?_ ?_
    · refine .ite (fun h => .ret ?_) (fun h => .ret ?_)
      · have h : x.k ≠ 20 := by simpa using h
        rw [show decide (x.k = 20 ∨ x.k = 21) = (x.k == 21) by rw [Bool.eq_iff_iff]; simp [h]]
      · have h : x.k = 20 := by simpa using h
        rw [show decide (x.k = 20 ∨ x.k = 21) = true by simp [h]]
    rintro _ rfl
    simp only [List.getD_cons_zero, D.toBool, locD_len, decide_eq_true_eq]
    unfold moreT
    refine .ite (fun h => ?_) (fun h => .ret (by rw [if_neg h]))
    rw [if_pos h]
    refine .ite (fun _ => .ite (fun _ => .ret (by rw [locD_snoc])) (fun h => absurd (by simp [locD_len]; omega) h)) (fun h => absurd (by simp; omega) h)
  obtain ⟨r, h1, rfl⟩ := this
  exact h1
theorem moreT_len (loc : List ByteArray) (x : T) : (moreT loc x).length ≤ loc.length + 1 := by unfold moreT; split <;> simp
end Go.Proofs.Ytkimdfpmblhapaa.Va

/- The reference: terms. -/
set_option linter.unusedVariables false
set_option linter.unusedSimpArgs false
namespace Go.Proofs.Ytkimdfpmblhapaa.Va
variable {m : T}
def LoopA (y2 : D) (c0 c1 c2 c4 c5 : D) (acc : List T) (res : Res (List T)) (r : R) : Prop := match res with
  | .ok r' => r = (2, [y2, .agg [c0, c1, c2, .sl (encs (acc ++ r')), c4, c5]])
  | .bad a e => ∃ d y, r = (1, [d, y]) ∧ d.cell 6 = .int a ∧ d.cell 7 = .int e ∧ e ≠ 0
theorem sizes_drop (l : List T) {i : Nat} (h : i < l.length) : sizes (l.drop i) = (l[i]).size + sizes (l.drop (i + 1)) := by
  rw [List.drop_eq_getElem_cons h]; rfl
theorem any_loop (hm : m.l.length ≤ 1000) (x : T) (loc : List ByteArray) (hx : x.size ≤ 400000) (hloc : loc.length + x.size ≤ 900000) (hA : ∀ (y : T) (lc : List ByteArray), y ∈ x.l → lc.length + y.size ≤ 900000 → EvP (fun n => F37 n m.enc (locD lc) y.enc) (GotA (anyT m.l lc y)))
    (y2 c0 c1 c2 c4 c5 : D) : ∀ (d i : Nat) (known : List ByteArray) (acc : List T), x.l.length - i ≤ d → i ≤ x.l.length → known.length + sizes (x.l.drop i) ≤ 900000 → acc.length ≤ i →
    EvP2 (fun n k => L37_12 n (locD loc) m.enc x.enc k [locD known, .int i, y2, .agg [c0, c1, c2, .sl (encs acc), c4, c5]]) (LoopA y2 c0 c1 c2 c4 c5 acc (anyL m.l loc x.k x.s known i (x.l.drop i)))
  | d, i, known, acc, hd, hi, hk, ha => by
    have hlen := length_le_sizes x.l
    have hsz := size_eq x
    refine .step (fun n k => L37_12_s n k _ _ _ _ _ _ _) ?_
    simp only [T.cell0, T.cell2, T.cell3, toL_sl, encs_length, D.toInt, locD_len]
    refine .ite (fun h => ?_) (fun h => ?_)
    rotate_left
    · have h : x.l.length ≤ i := by simpa using h
      rw [List.drop_of_length_le h]
      exact .ret (by show _ = _; rw [List.append_nil])
    have hlt : i < x.l.length := by simpa using h
    have hdrop := List.drop_eq_getElem_cons hlt
    have hsd := sizes_drop x.l hlt
    have hmem : x.l[i] ∈ x.l := List.getElem_mem hlt
    have hget : (encs x.l).getD ((i : Int).toNat) (D.int 0) = (x.l[i]).enc := by rw [show ((i : Int).toNat) = i by omega, encs_getD _ _ hlt]
    have hsm := size_mem hmem
    rw [hdrop]
    generalize hxi : x.l[i] = xi at *
    have happ : ∀ t : T, encs acc ++ [t.enc] = encs (acc ++ [t]) := fun t => by rw [encs_append]; rfl
    have tail : ∀ kn : List ByteArray, kn = (if x.k = 25 ∧ i = 2 then loc ++ [x.s] else known) → kn.length + xi.size + sizes (x.l.drop (i + 1)) ≤ 900000 → EvP2 (fun n k => if (inR (i : Int) x.l.length) = true then ((F37 n m.enc (locD kn) ((encs x.l).getD ((i : Int).toNat) (D.int 0))).bind fun r1 => if ((((r1.2.getD 0 (D.int 0)).cell 7).toInt) != (0 : Int)) = true then (rt 1 [(r1.2.getD 0 (D.int 0)), D.agg [c0, c1, c2, .sl (encs acc), c4, c5]]) else
        (if (decide (((D.agg [c0, c1, c2, .sl (encs acc), c4, c5]).cell 3).toL.length + ([D.agg [((r1.2.getD 0 (D.int 0)).cell 0), ((r1.2.getD 0 (D.int 0)).cell 1), ((r1.2.getD 0 (D.int 0)).cell 2), ((r1.2.getD 0 (D.int 0)).cell 3), ((r1.2.getD 0 (D.int 0)).cell 4), ((r1.2.getD 0 (D.int 0)).cell 5)]] : List D).length ≤ 34359738368)) = true then
        ((if (x.k == (29 : Int)) = true then (if (inR (i : Int) x.l.length) = true then ((F59 n (locD kn) ((encs x.l).getD ((i : Int).toNat) (D.int 0))).bind fun r3 => rt 0 [(r3.2.getD 0 (D.int 0))]) else none) else (rt 0 [locD kn]) : Option R).bind fun r2 => L37_12 n (locD loc) m.enc x.enc k [(r2.2.getD 0 (D.int 0)), D.int (IntKind.i64.wrap ((i : Int) + (1 : Int))), y2,
          D.agg [(D.agg [c0, c1, c2, .sl (encs acc), c4, c5]).cell 0, (D.agg [c0, c1, c2, .sl (encs acc), c4, c5]).cell 1, (D.agg [c0, c1, c2, .sl (encs acc), c4, c5]).cell 2, D.sl (((D.agg [c0, c1, c2, .sl (encs acc), c4, c5]).cell 3).toL ++ ([D.agg [((r1.2.getD 0 (D.int 0)).cell 0), ((r1.2.getD 0 (D.int 0)).cell 1), ((r1.2.getD 0 (D.int 0)).cell 2), ((r1.2.getD 0 (D.int 0)).cell 3), ((r1.2.getD 0 (D.int 0)).cell 4), ((r1.2.getD 0 (D.int 0)).cell 5)]] : List D)), (D.agg [c0, c1, c2, .sl (encs acc), c4, c5]).cell 4, (D.agg [c0, c1, c2, .sl (encs acc), c4, c5]).cell 5]]) else none)) else none)
        (LoopA y2 c0 c1 c2 c4 c5 acc (anyL m.l loc x.k x.s known i (xi :: x.l.drop (i + 1)))) := fun kn hkn hks => by
      refine .ite (fun _ => ?_) (fun h => absurd (inR_nat hlt) h)
      rw [hget]
      unfold anyL
      rw [← hkn]
      refine .bind (hA xi kn hmem (by omega)) ?_
      rintro _ ⟨dd, rfl, hdd⟩
      cases hr : anyT m.l kn xi with
      | bad a e =>
        rw [hr] at hdd
        simp only [List.getD_cons_zero, hdd.2.1, D.toInt]
        exact .ite (fun _ => .ret ⟨_, _, rfl, hdd.1, hdd.2.1, hdd.2.2⟩) (fun h => absurd hdd.2.2 (by simpa using h))
      | ok x' =>
        rw [hr] at hdd
        have hdd : dd = okD x' 0 := hdd
        subst hdd
        simp only [List.getD_cons_zero, okD_T, okD_7, D.toInt]
        refine .ite (fun h => absurd h (by decide)) (fun _ => ?_)
        have e3 : ((D.agg [c0, c1, c2, .sl (encs acc), c4, c5]).cell 3).toL = encs acc := rfl
        rw [e3, happ]
        refine .ite (fun _ => ?_) (fun h => absurd (by simp [encs_length]; omega) h)
        refine .bind (Q1 := fun r => r = (0, [locD (if x.k = 29 then moreT kn xi else kn)])) ?_ ?_
        · refine .ite (fun h => ?_) (fun h => .ret ?_)
          · refine .ite (fun _ => ?_) (fun h => absurd (inR_nat hlt) h)
            rw [if_pos (by simpa using h)]
            exact .bindE (more_ev kn (by omega) xi) (.ret rfl)
          · rw [if_neg (by simpa using h)]
        rintro _ rfl
        have hw : D.int (IntKind.i64.wrap ((i : Int) + 1)) = .int ((i + 1 : Nat) : Int) := congrArg _ (wrapN i 1 (by omega))
        simp only [List.getD_cons_zero]
        rw [hw]
        have hml := moreT_len kn xi
        have hx1 := size_eq xi
        match d, hd with
        | 0, hd => omega
        | d + 1, hd =>
          refine (any_loop hm x loc hx hloc hA y2 c0 c1 c2 c4 c5 d (i + 1) _ (acc ++ [x']) (by omega) (by omega) (by split <;> omega) (by simp; omega)).mono fun r hr2 => ?_
          cases hr3 : anyL m.l loc x.k x.s (if x.k = 29 then moreT kn xi else kn) (i + 1) (x.l.drop (i + 1)) with
          | bad a e => rw [hr3] at hr2; exact hr2
          | ok r' =>
            rw [hr3] at hr2
            show r = _
            rw [show r = _ from hr2, List.append_assoc]
            rfl
    refine .ite (fun h25 => ?_) (fun h25 => ?_)
    · have h25 : x.k = 25 := by simpa using h25
      refine .ite (fun h2 => ?_) (fun h2 => ?_)
      · have h2 : i = 2 := by
          have : (i : Int) = 2 := by simpa using h2
          omega
        refine .ite (fun _ => ?_) (fun h => absurd (by simp; omega) h)
        refine .ite (fun _ => ?_) (fun h => absurd (by simp [locD_len]; omega) h)
        simp only [locD_snoc]
        exact tail (loc ++ [x.s]) (by rw [if_pos ⟨h25, h2⟩]) (by have := sizes_drop x.l hlt; have hle : sizes (x.l.drop i) ≤ sizes x.l := by
                                                                    have := sizes_append (x.l.take i) (x.l.drop i); rw [List.take_append_drop] at this; omega
                                                                 simp; omega)
      · have h2 : ¬ i = 2 := by
          intro h
          subst h
          exact h2 rfl
        exact tail known (by rw [if_neg (fun h => h2 h.2)]) (by omega)
    · have h25 : ¬ x.k = 25 := by simpa using h25
      exact tail known (by rw [if_neg (fun h => h25 h.1)]) (by omega)
end Go.Proofs.Ytkimdfpmblhapaa.Va

/- The reference: terms, declarations, modules. -/
set_option linter.unusedVariables false
set_option linter.unusedSimpArgs false
namespace Go.Proofs.Ytkimdfpmblhapaa.Va
variable {m : T}
theorem anyT_eq (ds : List T) (loc : List ByteArray) (x : T) : anyT ds loc x = (if x.k = 19 then nameT ds loc x.s x.f x.t
    else if (x.k = 16 ∧ declK x.s ds ≠ 33) ∨ ((x.k = 15 ∨ x.k = 4) ∧ declK x.s ds ≠ 30) then .bad x.f 8
    else match anyL ds loc x.k x.s loc 0 x.l with
      | .ok l' => .ok (.mk x.k (if x.k = 16 ∨ x.k = 15 ∨ x.k = 4 then declN x.s 0 ds else x.n) (if x.k = 13 ∨ x.k = 17 then x.s else ⟨#[]⟩) l' x.f x.t)
      | .bad a e => .bad a e) := by
  cases x
  unfold anyT
  rfl
theorem any_ev (hm : m.l.length ≤ 1000) : ∀ (b : Nat) (x : T) (loc : List ByteArray), x.size ≤ b → x.size ≤ 400000 → loc.length + x.size ≤ 900000 → EvP (fun n => F37 n m.enc (locD loc) x.enc) (GotA (anyT m.l loc x))
  | 0, x, loc, hb, hx, hl => by have := size_eq x; omega
  | b + 1, x, loc, hb, hx, hl => by
    have hsz := size_eq x
    have hA : ∀ (y : T) (lc : List ByteArray), y ∈ x.l → lc.length + y.size ≤ 900000 → EvP (fun n => F37 n m.enc (locD lc) y.enc) (GotA (anyT m.l lc y)) := fun y lc hy h => by
      have := size_mem hy
      exact any_ev hm b y lc (by omega) (by omega) h
    refine .step (fun n => F37_eq n _ _ _) ?_
    rw [anyT_eq]
    simp only [T.cell0, T.cell1, T.cell2, T.cell4, T.cell5, D.toInt]
    refine .ite (fun h => ?_) (fun h => ?_)
    · rw [if_pos (show x.k = 19 by simpa using h)]
      refine .bind (name_ev hm loc (by omega) x) ?_
      rintro _ ⟨d, rfl, hd⟩
      exact .ret ⟨d, rfl, hd⟩
    rw [if_neg (show ¬ x.k = 19 by simpa using h)]
    refine .bind (Q1 := fun r => r = (0, [.bool (decide (x.k = 13 ∨ x.k = 17))])) ?_ ?_
    · refine .ite (fun h => .ret ?_) (fun h => .ret ?_)
      · have h : x.k ≠ 13 := by simpa using h
        rw [show decide (x.k = 13 ∨ x.k = 17) = (x.k == 17) by rw [Bool.eq_iff_iff]; simp [h]]
      · have h : x.k = 13 := by simpa using h
        rw [show decide (x.k = 13 ∨ x.k = 17) = true by simp [h]]
    rintro _ rfl
    refine .bind (Q1 := fun r => r = (0, [.agg [.int x.k, .int x.n, .str (if x.k = 13 ∨ x.k = 17 then x.s else ⟨#[]⟩), .sl [], .int x.f, .int x.t]])) ?_ ?_
    · simp only [List.getD_cons_zero, D.toBool, decide_eq_true_eq]
      exact .ite (fun h => .ret (by rw [if_pos h])) (fun h => .ret (by rw [if_neg h]))
    rintro _ rfl
    refine .bind (Q1 := fun r => r = (0, [.bool (decide ((x.k = 16 ∧ declK x.s m.l ≠ 33) ∨ ((x.k = 15 ∨ x.k = 4) ∧ declK x.s m.l ≠ 30)))])) ?_ ?_
    · have two : (x.k ≠ 16 ∨ declK x.s m.l = 33) → EvP (fun n => if (x.k == (15 : Int)) = false then (if (x.k == (4 : Int)) = true then ((F57 n m.enc (D.str x.s)).bind fun r8 => rt 0 [D.bool (((r8.2.getD 0 (D.int 0)).toInt) != (30 : Int))]) else (rt 0 [D.bool false])) else ((F57 n m.enc (D.str x.s)).bind fun r9 => rt 0 [D.bool (((r9.2.getD 0 (D.int 0)).toInt) != (30 : Int))]))
          (fun r => r = (0, [.bool (decide ((x.k = 16 ∧ declK x.s m.l ≠ 33) ∨ ((x.k = 15 ∨ x.k = 4) ∧ declK x.s m.l ≠ 30)))])) := fun h0 => by
        refine .ite (fun h1 => .ite (fun h2 => ?_) (fun h2 => .ret ?_)) (fun h1 => ?_)
        · have h2 : x.k = 4 := by simpa using h2
          refine .bindE (declk_ev hm x.s) (.ret ?_)
          rw [show decide ((x.k = 16 ∧ declK x.s m.l ≠ 33) ∨ ((x.k = 15 ∨ x.k = 4) ∧ declK x.s m.l ≠ 30)) = (declK x.s m.l != 30) by rw [Bool.eq_iff_iff]; simp [h2]]
          rfl
        · have h1 : x.k ≠ 15 := by simpa using h1
          have h2 : x.k ≠ 4 := by simpa using h2
          rw [show decide ((x.k = 16 ∧ declK x.s m.l ≠ 33) ∨ ((x.k = 15 ∨ x.k = 4) ∧ declK x.s m.l ≠ 30)) = false by simp [h1, h2]; exact fun h => h0.resolve_left (fun h3 => h3 h)]
        · have h1 : x.k = 15 := by simpa using h1
          refine .bindE (declk_ev hm x.s) (.ret ?_)
          rw [show decide ((x.k = 16 ∧ declK x.s m.l ≠ 33) ∨ ((x.k = 15 ∨ x.k = 4) ∧ declK x.s m.l ≠ 30)) = (declK x.s m.l != 30) by rw [Bool.eq_iff_iff]; simp [h1]]
          rfl
      refine .ite (fun h1 => ?_) (fun h1 => two (.inl (by simpa using h1)))
      have h1 : x.k = 16 := by simpa using h1
      refine .bindE (declk_ev hm x.s) ?_
      simp only [List.getD_cons_zero, D.toInt]
      refine .ite (fun h2 => two (.inr (by simpa using h2))) (fun h2 => .ret ?_)
      have h2 : declK x.s m.l ≠ 33 := by simpa using h2
      rw [show decide ((x.k = 16 ∧ declK x.s m.l ≠ 33) ∨ ((x.k = 15 ∨ x.k = 4) ∧ declK x.s m.l ≠ 30)) = true by simp [h1, h2]]
    rintro _ rfl
    simp only [List.getD_cons_zero, D.toBool, decide_eq_true_eq]
    refine .ite (fun h => ?_) (fun h => ?_)
    · rw [if_pos h]
      exact .bindE (bad0_ev x 8) (.ret ⟨_, rfl, rfl, rfl, by decide⟩)
    rw [if_neg h]
    refine .bind (Q1 := fun r => r = (0, [.bool (decide (x.k = 16 ∨ x.k = 15 ∨ x.k = 4))])) ?_ ?_
    · refine .ite (fun h1 => .ite (fun h2 => .ret ?_) (fun h2 => .ret ?_)) (fun h1 => .ret ?_)
      · have h1 : x.k ≠ 16 := by simpa using h1
        have h2 : x.k ≠ 15 := by simpa using h2
        rw [show decide (x.k = 16 ∨ x.k = 15 ∨ x.k = 4) = (x.k == 4) by rw [Bool.eq_iff_iff]; simp [h1, h2]]
      · have h2 : x.k = 15 := by simpa using h2
        rw [show decide (x.k = 16 ∨ x.k = 15 ∨ x.k = 4) = true by simp [h2]]
      · have h1 : x.k = 16 := by simpa using h1
        rw [show decide (x.k = 16 ∨ x.k = 15 ∨ x.k = 4) = true by simp [h1]]
    rintro _ rfl
    simp only [List.getD_cons_zero, D.toBool, decide_eq_true_eq, cell_agg, List.getD_cons_succ]
    have fin : ∀ (N : Int) (y2 : D), EvP (fun n => (L37_12 n (locD loc) m.enc x.enc n [locD loc, .int 0, y2, .agg [.int x.k, .int N, .str (if x.k = 13 ∨ x.k = 17 then x.s else ⟨#[]⟩), .sl [], .int x.f, .int x.t]]).bind fun r13 => if r13.1 = 1 then (rt 0 [(r13.2.getD 0 (D.int 0))]) else (if r13.1 = 2 then (rt 0 [D.agg [((r13.2.getD 1 (D.int 0)).cell 0), ((r13.2.getD 1 (D.int 0)).cell 1), ((r13.2.getD 1 (D.int 0)).cell 2), ((r13.2.getD 1 (D.int 0)).cell 3), ((r13.2.getD 1 (D.int 0)).cell 4), ((r13.2.getD 1 (D.int 0)).cell 5), D.int (0 : Int), D.int (0 : Int)]]) else none))
        (GotA (match anyL m.l loc x.k x.s loc 0 x.l with | .ok l' => .ok (.mk x.k N (if x.k = 13 ∨ x.k = 17 then x.s else ⟨#[]⟩) l' x.f x.t) | .bad a e => .bad a e)) := fun N y2 => by
      have hloop := any_loop hm x loc hx hl hA y2 (.int x.k) (.int N) (.str (if x.k = 13 ∨ x.k = 17 then x.s else ⟨#[]⟩)) (.int x.f) (.int x.t) _ 0 loc [] (Nat.le_refl _) (Nat.zero_le _) (by rw [List.drop_zero]; omega) (Nat.zero_le _)
      rw [List.drop_zero] at hloop
      refine .bind hloop.diag ?_
      intro r hr
      cases hL : anyL m.l loc x.k x.s loc 0 x.l with
      | bad a e =>
        rw [hL] at hr
        obtain ⟨d, y, rfl, h1, h2, h3⟩ := hr
        exact .ite (fun _ => .ret ⟨d, rfl, h1, h2, h3⟩) (fun h => absurd rfl h)
      | ok l' =>
        rw [hL] at hr
        have hr : r = (2, [y2, .agg [.int x.k, .int N, .str (if x.k = 13 ∨ x.k = 17 then x.s else ⟨#[]⟩), .sl (encs ([] ++ l')), .int x.f, .int x.t]]) := hr
        subst hr
        refine .ite (fun h => absurd h (by simp)) (fun _ => .ite (fun _ => .ret ⟨_, rfl, ?_⟩) (fun h => absurd rfl h))
        rfl
    refine .ite (fun h1 => ?_) (fun h1 => ?_)
    · simp only [if_pos h1]
      refine .bindE (decln_ev hm x.s) ?_
      simp only [List.getD_cons_zero]
      exact fin (declN x.s 0 m.l) _
    · simp only [if_neg h1]
      exact fin x.n _
end Go.Proofs.Ytkimdfpmblhapaa.Va

/- The reference: declarations, modules. -/
set_option linter.unusedVariables false
set_option linter.unusedSimpArgs false
namespace Go.Proofs.Ytkimdfpmblhapaa.Va
variable {m : T}
def T.setS (x : T) (s : ByteArray) : T := .mk x.k x.n s x.l x.f x.t
def memB (s : ByteArray) : List ByteArray → Bool
  | [] => false
  | x :: r => decide (x = s) || memB s r
theorem memB_iff {s : ByteArray} : ∀ {l : List ByteArray}, memB s l = true ↔ s ∈ l
  | [] => by simp [memB]
  | x :: r => by
    unfold memB
    rw [Bool.or_eq_true, memB_iff, List.mem_cons, decide_eq_true_eq]
    exact ⟨fun h => h.imp Eq.symm id, fun h => h.imp Eq.symm id⟩
def partsT (ds : List T) (keep : Bool) (seen : List ByteArray) : List T → Res (List T)
  | [] => .ok []
  | x :: r => if memB x.s seen = true then .bad x.f 9 else match anyT ds [] x with
    | .bad a e => .bad a e
    | .ok x' => match partsT ds keep (seen ++ [x.s]) r with
      | .bad a e => .bad a e
      | .ok r' => .ok ((if keep = true then x'.setS x.s else x') :: r')
def T.zero : T := .mk 0 0 ⟨#[]⟩ [] 0 0
def names (l : List T) : List ByteArray := l.map T.s
def LoopP (res : Res (List T)) (acc : List T) (r : R) : Prop := match res with
  | .ok r' => r = (2, [.sl (encs (acc ++ r'))])
  | .bad a e => ∃ d, r = (1, [d, .int a, .int e]) ∧ e ≠ 0
theorem getD_encs (l : List T) {i : Nat} (h : i < l.length) : (encs l).getD ((i : Int).toNat) (D.int 0) = (l[i]).enc := by rw [show ((i : Int).toNat) = i by omega, encs_getD _ _ h]
theorem W1 {i : Nat} (h : i ≤ 900000) : D.int (IntKind.i64.wrap ((i : Int) + 1)) = .int ((i + 1 : Nat) : Int) := congrArg _ (wrapN i 1 (by omega))
theorem twice_loop (l : List T) (hl : l.length ≤ 500000) (i : Nat) (hi : i < l.length) (x1 x2 x4 : D) : ∀ (d j : Nat), i - j ≤ d → j ≤ i → (l[i]).s ∉ (names l).take j →
    EvP2 (fun n k => L36_6 n (.sl (encs l)) x1 x2 (.int i) x4 k [.int j]) (fun r => ((l[i]).s ∈ (names l).take i ∧ r = (1, [x2, .int (l[i]).f, .int 9])) ∨ ((l[i]).s ∉ (names l).take i ∧ r = (2, [])))
  | d, j, hd, hj, hn => by
    refine .step (fun n k => L36_6_s n k _ _ _ _ _ _) ?_
    simp only [toL_sl, encs_length, D.toInt]
    refine .ite (fun h => ?_) (fun h => .ret (.inr ⟨?_, rfl⟩))
    · have hlt : j < i := by simpa using h
      have hjl : j < l.length := by omega
      refine .ite (fun _ => .ite (fun _ => ?_) (fun h => absurd (inR_nat hi) h)) (fun h => absurd (inR_nat hjl) h)
      simp only [getD_encs l hjl, getD_encs l hi, T.cell2, T.cell4, D.toStr]
      refine .ite (fun h => ?_) (fun h => ?_)
      · have h : l[j].s = l[i].s := of_decide_eq_true h
        refine .ite (fun _ => .ret (.inl ⟨?_, rfl⟩)) (fun h => absurd (inR_nat hi) h)
        rw [← h]
        exact List.mem_take_iff_getElem.2 ⟨j, by simp [names]; omega, by simp [names]⟩
      · have h : ¬ l[j].s = l[i].s := by simpa using h
        rw [W1 (by omega)]
        match d, hd with
        | 0, hd => omega
        | d + 1, hd =>
          refine twice_loop l hl i hi x1 x2 x4 d (j + 1) (by omega) (by omega) fun hm => ?_
          rw [List.take_succ_eq_append_getElem (by simp [names]; omega)] at hm
          rcases List.mem_append.1 hm with hm | hm
          · exact hn hm
          · rw [List.mem_singleton] at hm
            exact h (by simpa [names] using hm.symm)
    · have : j = i := by
        have : ¬ j < i := by simpa using h
        omega
      subst this
      exact hn
theorem parts_loop (hm : m.l.length ≤ 1000) (l : List T) (hl : sizes l ≤ 400000) (keep : Bool) : ∀ (d i : Nat) (acc : List T), l.length - i ≤ d → i ≤ l.length → acc.length ≤ i →
    EvP2 (fun n k => L36_3 n (.sl (encs l)) (.bool keep) m.enc k [.sl (encs acc), .int i]) (LoopP (partsT m.l keep ((names l).take i) (l.drop i)) acc)
  | d, i, acc, hd, hi, ha => by
    have hlen := length_le_sizes l
    refine .step (fun n k => L36_3_s n k _ _ _ _ _) ?_
    simp only [toL_sl, encs_length, D.toInt, D.toBool]
    refine .ite (fun h => ?_) (fun h => ?_)
    rotate_left
    · have h : l.length ≤ i := by simpa using h
      rw [List.drop_of_length_le h]
      exact .ret (by show _ = _; rw [List.append_nil])
    have hlt : i < l.length := by simpa using h
    have hsd := sizes_drop l hlt
    have hsm := size_mem (List.getElem_mem hlt)
    rw [List.drop_eq_getElem_cons hlt]
    unfold partsT
    refine .bind (twice_loop l (by omega) i hlt _ _ _ _ 0 (Nat.le_refl _) (Nat.zero_le _) (by simp)).diag ?_
    rintro _ (⟨h1, rfl⟩ | ⟨h1, rfl⟩)
    · rw [if_pos (memB_iff.2 h1)]
      exact .ite (fun _ => .ret ⟨_, rfl, by decide⟩) (fun h => absurd rfl h)
    rw [if_neg (fun h => h1 (memB_iff.1 h))]
    refine .ite (fun h => absurd h (by simp)) (fun _ => .ite (fun _ => ?_) (fun h => absurd rfl h))
    refine .ite (fun _ => ?_) (fun h => absurd (inR_nat hlt) h)
    rw [getD_encs l hlt]
    refine .bind (any_ev hm _ (l[i]) [] (Nat.le_refl _) (by omega) (by simp; omega)) ?_
    rintro _ ⟨dd, rfl, hdd⟩
    cases hr : anyT m.l [] l[i] with
    | bad a e =>
      rw [hr] at hdd
      simp only [List.getD_cons_zero, hdd.1, hdd.2.1, D.toInt]
      exact .ite (fun _ => .ret ⟨_, rfl, hdd.2.2⟩) (fun h => absurd hdd.2.2 (by simpa using h))
    | ok x' =>
      rw [hr] at hdd
      have hdd : dd = okD x' 0 := hdd
      subst hdd
      simp only [List.getD_cons_zero, okD_7, D.toInt]
      refine .ite (fun h => absurd h (by decide)) (fun _ => ?_)
      refine .bind (Q1 := fun r => r = (0, [okD (if keep = true then x'.setS (l[i]).s else x') 0])) ?_ ?_
      · refine .ite (fun h => .ite (fun _ => .ret ?_) (fun h => absurd (inR_nat hlt) h)) (fun h => .ret ?_)
        · rw [if_pos h, T.cell2]; rfl
        · rw [if_neg h]
      rintro _ rfl
      simp only [List.getD_cons_zero, okD_T]
      generalize (if keep = true then x'.setS (l[i]).s else x') = z
      refine .ite (fun _ => ?_) (fun h => absurd (by simp [encs_length]; omega) h)
      have happ : encs acc ++ [z.enc] = encs (acc ++ [z]) := by rw [encs_append]; rfl
      rw [happ, W1 (by omega)]
      match d, hd with
      | 0, hd => omega
      | d + 1, hd =>
        refine (parts_loop hm l hl keep d (i + 1) (acc ++ [z]) (by omega) (by omega) (by simp; omega)).mono fun r hr2 => ?_
        rw [List.take_succ_eq_append_getElem (by simp [names]; omega), show (names l)[i]'(by simp [names]; omega) = (l[i]).s by simp [names]] at hr2
        cases hr3 : partsT m.l keep ((names l).take i ++ [(l[i]).s]) (l.drop (i + 1)) with
        | bad a e => rw [hr3] at hr2; exact hr2
        | ok r' =>
          rw [hr3] at hr2
          show r = _
          rw [show r = _ from hr2, List.append_assoc]
          rfl
def GotP (res : Res (List T)) (r : R) : Prop := match res with
  | .ok r' => r = (0, [.sl (encs r'), .int 0, .int 0])
  | .bad a e => ∃ d, r = (0, [d, .int a, .int e]) ∧ e ≠ 0
theorem parts_ev (hm : m.l.length ≤ 1000) (l : List T) (hl : sizes l ≤ 400000) (keep : Bool) : EvP (fun n => F36 n m.enc (.sl (encs l)) (.bool keep)) (GotP (partsT m.l keep [] l)) := by
  refine .step (fun n => F36_eq n _ _ _) ?_
  refine .bind (parts_loop hm l hl keep _ 0 [] (Nat.le_refl _) (Nat.zero_le _) (Nat.zero_le _)).diag ?_
  intro r hr
  rw [List.take_zero, List.drop_zero] at hr
  cases hp : partsT m.l keep [] l with
  | bad a e =>
    rw [hp] at hr
    obtain ⟨d, rfl, he⟩ := hr
    exact .ite (fun _ => .ret ⟨_, rfl, he⟩) (fun h => absurd rfl h)
  | ok r' =>
    rw [hp] at hr
    have hr : r = (2, [.sl (encs ([] ++ r'))]) := hr
    subst hr
    refine .ite (fun h => absurd h (by simp)) (fun _ => .ite (fun _ => .ret rfl) (fun h => absurd rfl h))
def declT (ds : List T) (t : T) : Res T :=
  if t.k = 30 then match partsT ds true [] t.l with
    | .bad a e => .bad a e
    | .ok l' => .ok (.mk t.k t.n ⟨#[]⟩ l' t.f t.t)
  else if t.k ≠ 33 then anyT ds [] t
  else match t.l with
    | [p, x, b] => match partsT ds false [] p.l with
      | .bad a e => .bad a e
      | .ok l' => match anyT ds [] x with
        | .bad a e => .bad a e
        | .ok x' => match anyT ds (names p.l) b with
          | .bad a e => .bad a e
          | .ok b' => .ok (.mk t.k t.n ⟨#[]⟩ [.mk p.k 0 ⟨#[]⟩ l' p.f p.t, x', b'] t.f t.t)
    | _ => .bad 0 0
theorem fnames_loop (p x b : T) (t : T) (ht : t.l = [p, x, b]) (hp : p.l.length ≤ 500000) (x0 x2 x3 x4 : D) : ∀ (d i : Nat), p.l.length - i ≤ d → i ≤ p.l.length →
    EvP2 (fun n k => L21_17 n x0 t.enc x2 x3 x4 k [locD ((names p.l).take i), .int i]) (fun r => r = (1, [locD (names p.l)]))
  | d, i, hd, hi => by
    refine .step (fun n k => L21_17_s n k _ _ _ _ _ _ _) ?_
    have h0 : (encs t.l).getD ((0 : Int).toNat) (D.int 0) = p.enc := by rw [ht]; rfl
    have hl : t.l.length = 3 := by rw [ht]; rfl
    simp only [T.cell3, toL_sl, encs_length, D.toInt, h0, locD_len, hl]
    refine .ite (fun _ => ?_) (fun h => absurd (by decide) h)
    refine .ite (fun h => ?_) (fun h => .ret ?_)
    · have hlt : i < p.l.length := by simpa using h
      refine .ite (fun _ => .ite (fun _ => .ite (fun _ => ?_) (fun h => absurd (by simp [names]; omega) h)) (fun h => absurd (inR_nat hlt) h)) (fun h => absurd (by decide) h)
      have hs : D.sl ((locD ((names p.l).take i)).toL ++ [((encs p.l).getD ((i : Int).toNat) (D.int 0)).cell 2]) = locD ((names p.l).take (i + 1)) := by
        rw [getD_encs _ hlt, T.cell2, List.take_succ_eq_append_getElem (by simp [names]; omega), show (names p.l)[i]'(by simp [names]; omega) = (p.l[i]).s by simp [names]]
        unfold locD
        simp [D.toL]
      rw [hs, W1 (by omega)]
      match d, hd with
      | 0, hd => omega
      | d + 1, hd => exact fnames_loop p x b t ht hp x0 x2 x3 x4 d (i + 1) (by omega) (by omega)
    · have h : p.l.length ≤ i := by simpa using h
      rw [List.take_of_length_le (by simpa [names] using h)]
theorem declared_ev (hm : m.l.length ≤ 1000) (t : T) (ht : t.size ≤ 400000) (hk : t.k = 33 → ∃ p x b, t.l = [p, x, b]) : EvP (fun n => F21 n m.enc t.enc) (GotA (declT m.l t)) := by
  have hsz := size_eq t
  refine .step (fun n => F21_eq n _ _) ?_
  simp only [T.cell0, T.cell1, T.cell3, T.cell4, T.cell5, toL_sl, encs_length, D.toInt]
  unfold declT
  refine .ite (fun h => ?_) (fun h => ?_)
  · have h : t.k = 30 := by simpa using h
    rw [if_pos h]
    refine .bind (parts_ev hm t.l (by omega) true) ?_
    intro r hr
    cases hp : partsT m.l true [] t.l with
    | bad a e =>
      rw [hp] at hr
      obtain ⟨d, rfl, he⟩ := hr
      simp only [List.getD_cons_zero, List.getD_cons_succ, D.toInt]
      exact .ite (fun _ => .ret ⟨_, rfl, rfl, rfl, he⟩) (fun h => absurd he (by simpa using h))
    | ok l' =>
      rw [hp] at hr
      have hr : r = (0, [.sl (encs l'), .int 0, .int 0]) := hr
      subst hr
      simp only [List.getD_cons_zero, List.getD_cons_succ, D.toInt]
      exact .ite (fun h => absurd h (by decide)) (fun _ => .ret ⟨_, rfl, rfl⟩)
  have h : ¬ t.k = 30 := by simpa using h
  rw [if_neg h]
  refine .ite (fun h2 => ?_) (fun h2 => ?_)
  · have h2 : t.k ≠ 33 := by simpa using h2
    rw [if_pos h2]
    refine .bind (any_ev hm _ t [] (Nat.le_refl _) (by omega) (by simp; omega)) ?_
    rintro _ ⟨d, rfl, hd⟩
    exact .ret ⟨d, rfl, hd⟩
  have h2 : t.k = 33 := by simpa using h2
  rw [if_neg (by simp [h2])]
  obtain ⟨p, x, b, hl⟩ := hk h2
  have hlen : t.l.length = 3 := by rw [hl]; rfl
  have e0 : (encs t.l).getD ((0 : Int).toNat) (D.int 0) = p.enc := by rw [hl]; rfl
  have e1 : (encs t.l).getD ((1 : Int).toNat) (D.int 0) = x.enc := by rw [hl]; rfl
  have e2 : (encs t.l).getD ((2 : Int).toNat) (D.int 0) = b.enc := by rw [hl]; rfl
  have hps : p.size + x.size + b.size + 1 ≤ 400000 := by rw [hl] at hsz; simp only [sizes] at hsz; omega
  have hpp := size_eq p
  simp only [e0, e1, e2, hlen, T.cell0, T.cell3, T.cell4, T.cell5]
  rw [hl]
  simp only
  refine .ite (fun _ => ?_) (fun h => absurd (by decide) h)
  refine .bind (parts_ev hm p.l (by omega) false) ?_
  intro r hr
  cases hp : partsT m.l false [] p.l with
  | bad a e =>
    rw [hp] at hr
    obtain ⟨d, rfl, he⟩ := hr
    simp only [List.getD_cons_zero, List.getD_cons_succ, D.toInt]
    exact .ite (fun _ => .ret ⟨_, rfl, rfl, rfl, he⟩) (fun h => absurd he (by simpa using h))
  | ok l' =>
    rw [hp] at hr
    have hr : r = (0, [.sl (encs l'), .int 0, .int 0]) := hr
    subst hr
    simp only [List.getD_cons_zero, List.getD_cons_succ, D.toInt]
    refine .ite (fun h => absurd h (by decide)) (fun _ => ?_)
    refine .ite (fun _ => .ite (fun _ => .ite (fun _ => .ite (fun _ => ?_) (fun h => absurd (by decide) h)) (fun h => absurd (by decide) h)) (fun h => absurd (by decide) h)) (fun h => absurd (by decide) h)
    refine .bind (any_ev hm _ x [] (Nat.le_refl _) (by omega) (by simp; omega)) ?_
    rintro _ ⟨dd, rfl, hdd⟩
    cases hx : anyT m.l [] x with
    | bad a e =>
      rw [hx] at hdd
      simp only [List.getD_cons_zero, hdd.2.1, D.toInt]
      exact .ite (fun _ => .ret ⟨_, rfl, hdd⟩) (fun h => absurd hdd.2.2 (by simpa using h))
    | ok x' =>
      rw [hx] at hdd
      have hdd : dd = okD x' 0 := hdd
      subst hdd
      simp only [List.getD_cons_zero, okD_T, okD_7, D.toInt]
      refine .ite (fun h => absurd h (by decide)) (fun _ => ?_)
      have hpl := length_le_sizes p.l
      refine .bind (fnames_loop p x b t hl (by omega) _ _ _ _ _ 0 (Nat.le_refl _) (Nat.zero_le _)).diag ?_
      rintro _ rfl
      refine .ite (fun _ => ?_) (fun h => absurd rfl h)
      refine .ite (fun _ => ?_) (fun h => absurd (by decide) h)
      refine .bind (any_ev hm _ b (names p.l) (Nat.le_refl _) (by omega) (by simp [names]; omega)) ?_
      rintro _ ⟨dd, rfl, hdd⟩
      cases hb : anyT m.l (names p.l) b with
      | bad a e =>
        rw [hb] at hdd
        simp only [List.getD_cons_zero, hdd.2.1, D.toInt]
        exact .ite (fun _ => .ret ⟨_, rfl, hdd⟩) (fun h => absurd hdd.2.2 (by simpa using h))
      | ok b' =>
        rw [hb] at hdd
        have hdd : dd = okD b' 0 := hdd
        subst hdd
        simp only [List.getD_cons_zero, okD_T, okD_7, D.toInt]
        exact .ite (fun h => absurd h (by decide)) (fun _ => .ret ⟨_, rfl, rfl⟩)
end Go.Proofs.Ytkimdfpmblhapaa.Va

/- The reference: a module, resolved. -/
set_option linter.unusedVariables false
set_option linter.unusedSimpArgs false
namespace Go.Proofs.Ytkimdfpmblhapaa.Va
variable {m : T}
def dupL (ds : List T) (i : Nat) : List T → Option Int
  | [] => none
  | x :: r => if declN x.s 0 ds < (i : Int) then some x.f else dupL ds (i + 1) r
def declsT (ds : List T) : List T → Res (List T)
  | [] => .ok []
  | x :: r => match declT ds x with
    | .bad a e => .bad a e
    | .ok x' => match declsT ds r with
      | .bad a e => .bad a e
      | .ok r' => .ok (x' :: r')
def resT (m : T) : Res T := match dupL m.l 0 m.l with
  | some f => .bad f 9
  | none => match declsT m.l m.l with
    | .bad a e => .bad a e
    | .ok l' => .ok (.mk m.k m.n ⟨#[]⟩ l' m.f m.t)
theorem dup_loop (hm : m.l.length ≤ 1000) (y : D) : ∀ (d i : Nat), m.l.length - i ≤ d → i ≤ m.l.length →
    EvP2 (fun n k => L9_2 n m.enc k [.int i, y]) (fun r => match dupL m.l i (m.l.drop i) with | some f => r = (1, [.int f, .int 9, T.zero.enc]) | none => r = (2, [y]))
  | d, i, hd, hi => by
    refine .step (fun n k => L9_2_s n k _ _ _) ?_
    simp only [T.cell3, toL_sl, encs_length, D.toInt]
    refine .ite (fun h => ?_) (fun h => ?_)
    rotate_left
    · have h : m.l.length ≤ i := by simpa using h
      rw [List.drop_of_length_le h]
      exact .ret rfl
    have hlt : i < m.l.length := by simpa using h
    rw [List.drop_eq_getElem_cons hlt]
    unfold dupL
    refine .ite (fun _ => ?_) (fun h => absurd (inR_nat hlt) h)
    simp only [getD_encs _ hlt, T.cell2, T.cell4]
    refine .bindE (decln_ev hm _) ?_
    simp only [List.getD_cons_zero, D.toInt, decide_eq_true_eq]
    refine .ite (fun h => ?_) (fun h => ?_)
    · rw [if_pos h]
      exact .ite (fun _ => .ret rfl) (fun h => absurd (inR_nat hlt) h)
    · rw [if_neg h, W1 (by omega)]
      match d, hd with
      | 0, hd => omega
      | d + 1, hd => exact dup_loop hm y d (i + 1) (by omega) (by omega)
def LoopD (y c0 c1 c2 c4 c5 : D) (acc : List T) (res : Res (List T)) (r : R) : Prop := match res with
  | .ok l' => r = (2, [y, .agg [c0, c1, c2, .sl (encs (acc ++ l')), c4, c5]])
  | .bad a e => ∃ d, r = (1, [.int a, .int e, T.zero.enc, d])
theorem decls_loop (hm : m.l.length ≤ 1000) (hz : sizes m.l ≤ 400000) (hk : ∀ x ∈ m.l, x.k = 33 → ∃ p y b, x.l = [p, y, b]) (y c0 c1 c2 c4 c5 : D) : ∀ (d i : Nat) (acc : List T), m.l.length - i ≤ d → i ≤ m.l.length → acc.length ≤ i →
    EvP2 (fun n k => L9_8 n m.enc k [.int i, y, .agg [c0, c1, c2, .sl (encs acc), c4, c5]]) (LoopD y c0 c1 c2 c4 c5 acc (declsT m.l (m.l.drop i)))
  | d, i, acc, hd, hi, ha => by
    refine .step (fun n k => L9_8_s n k _ _ _ _) ?_
    simp only [T.cell3, toL_sl, encs_length, D.toInt]
    refine .ite (fun h => ?_) (fun h => ?_)
    rotate_left
    · have h : m.l.length ≤ i := by simpa using h
      rw [List.drop_of_length_le h]
      exact .ret (by show _ = _; rw [List.append_nil])
    have hlt : i < m.l.length := by simpa using h
    have hmem := List.getElem_mem hlt
    have hsm := size_mem hmem
    rw [List.drop_eq_getElem_cons hlt]
    unfold declsT
    refine .ite (fun _ => ?_) (fun h => absurd (inR_nat hlt) h)
    simp only [getD_encs _ hlt]
    refine .bind (declared_ev hm (m.l[i]) (by omega) (hk _ hmem)) ?_
    rintro _ ⟨dd, rfl, hdd⟩
    cases hr : declT m.l m.l[i] with
    | bad a e =>
      rw [hr] at hdd
      simp only [List.getD_cons_zero, hdd.1, hdd.2.1, D.toInt]
      exact .ite (fun _ => .ret ⟨_, rfl⟩) (fun h => absurd hdd.2.2 (by simpa using h))
    | ok x' =>
      rw [hr] at hdd
      have hdd : dd = okD x' 0 := hdd
      subst hdd
      simp only [List.getD_cons_zero, okD_T, okD_7, D.toInt]
      refine .ite (fun h => absurd h (by decide)) (fun _ => ?_)
      have e3 : ((D.agg [c0, c1, c2, .sl (encs acc), c4, c5]).cell 3).toL = encs acc := rfl
      have happ : encs acc ++ [x'.enc] = encs (acc ++ [x']) := by rw [encs_append]; rfl
      rw [e3, happ, W1 (by omega)]
      refine .ite (fun _ => ?_) (fun h => absurd (by simp [encs_length]; omega) h)
      match d, hd with
      | 0, hd => omega
      | d + 1, hd =>
        refine (decls_loop hm hz hk y c0 c1 c2 c4 c5 d (i + 1) (acc ++ [x']) (by omega) (by omega) (by simp; omega)).mono fun r hr2 => ?_
        cases hr3 : declsT m.l (m.l.drop (i + 1)) with
        | bad a e => rw [hr3] at hr2; exact hr2
        | ok r' =>
          rw [hr3] at hr2
          show r = _
          rw [show r = _ from hr2, List.append_assoc]
          rfl
/-- What both come to. -/
def GotR (res : Res T) (r : R) : Prop := match res with
  | .ok x => r = (0, [x.enc, .int 0, .int 0])
  | .bad a e => r = (0, [T.zero.enc, .int a, .int e])
theorem ref_resolve (hm : m.l.length ≤ 1000) (hz : sizes m.l ≤ 400000) (hk : ∀ x ∈ m.l, x.k = 33 → ∃ p y b, x.l = [p, y, b]) : EvP (fun n => F9 n m.enc) (GotR (resT m)) := by
  refine .step (fun n => F9_eq n _) ?_
  simp only [T.cell0, T.cell1, T.cell4, T.cell5]
  unfold resT
  refine .bind (dup_loop hm _ _ 0 (Nat.le_refl _) (Nat.zero_le _)).diag ?_
  intro r hr
  rw [List.drop_zero] at hr
  cases hd : dupL m.l 0 m.l with
  | some f =>
    rw [hd] at hr
    have hr : r = (1, [.int f, .int 9, T.zero.enc]) := hr
    subst hr
    exact .ite (fun _ => .ret rfl) (fun h => absurd rfl h)
  | none =>
    rw [hd] at hr
    simp only at hr
    subst hr
    refine .ite (fun h => absurd h (by simp)) (fun _ => .ite (fun _ => ?_) (fun h => absurd rfl h))
    have hl := decls_loop hm hz hk T.zero.enc (.int m.k) (.int m.n) (.str ⟨#[]⟩) (.int m.f) (.int m.t) _ 0 [] (Nat.le_refl _) (Nat.zero_le _) (Nat.zero_le _)
    rw [List.drop_zero] at hl
    refine .bind hl.diag ?_
    intro r hr
    cases hp : declsT m.l m.l with
    | bad a e =>
      rw [hp] at hr
      obtain ⟨d, rfl⟩ := hr
      exact .ite (fun _ => .ret rfl) (fun h => absurd rfl h)
    | ok l' =>
      rw [hp] at hr
      have hr : r = (2, [T.zero.enc, .agg [.int m.k, .int m.n, .str ⟨#[]⟩, .sl (encs ([] ++ l')), .int m.f, .int m.t]]) := hr
      subst hr
      exact .ite (fun h => absurd h (by simp)) (fun _ => .ite (fun _ => .ret rfl) (fun h => absurd rfl h))
end Go.Proofs.Ytkimdfpmblhapaa.Va
