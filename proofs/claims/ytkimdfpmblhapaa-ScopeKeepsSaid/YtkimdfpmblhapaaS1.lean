/- Plain lemmas: what the parser's expressions and statements come to. Conditions: each theorem's own. -/
import Derived.Test.YtkimdfpmblhapaaE1
import Derived.Test.YtkimdfpmblhapaaE2
set_option linter.unusedVariables false
set_option linter.unusedSimpArgs false
set_option linter.constructorNameAsVariable false
/- What holds from some depth on; terms and tokens as data. -/
set_option linter.unusedVariables false
namespace Go.Proofs.Ytkimdfpmblhapaa.Va

def Ev (f : Nat → Option R) (r : R) : Prop := ∃ N, ∀ n, N ≤ n → f n = some r
def Ev2 (f : Nat → Nat → Option R) (r : R) : Prop := ∃ N, ∀ n k, N ≤ n → N ≤ k → f n k = some r
theorem Ev.ret (i : Nat) (l : List D) : Ev (fun _ => rt i l) (i, l) := ⟨0, fun _ _ => rfl⟩
theorem Ev.of_eq {f g : Nat → Option R} {r : R} (h : ∀ n, f n = g n) (hg : Ev g r) : Ev f r := by
  obtain ⟨N, hN⟩ := hg
  exact ⟨N, fun n hn => (h n).trans (hN n hn)⟩
theorem Ev.step {f g : Nat → Option R} {r : R} (h : ∀ n, f (n + 1) = g n) (hg : Ev g r) : Ev f r := by
  obtain ⟨N, hN⟩ := hg
  refine ⟨N + 1, fun n hn => ?_⟩
  obtain ⟨m, rfl⟩ : ∃ m, n = m + 1 := ⟨n - 1, by omega⟩
  rw [h m]
  exact hN m (by omega)
theorem Ev.bind {g : Nat → Option R} {h : Nat → R → Option R} {r1 r : R} (h1 : Ev g r1) (h2 : Ev (fun n => h n r1) r) : Ev (fun n => (g n).bind (h n)) r := by
  obtain ⟨N, hN⟩ := h1
  obtain ⟨M, hM⟩ := h2
  refine ⟨max N M, fun n hn => ?_⟩
  show (g n).bind (h n) = some r
  rw [hN n (by omega), Option.bind_some]
  exact hM n (by omega)
theorem Ev.pos {c : Prop} [Decidable c] {a b : Nat → Option R} {r : R} (hc : c) (h : Ev a r) : Ev (fun n => if c then a n else b n) r := by
  simpa only [if_pos hc] using h
theorem Ev.neg {c : Prop} [Decidable c] {a b : Nat → Option R} {r : R} (hc : ¬ c) (h : Ev b r) : Ev (fun n => if c then a n else b n) r := by
  simpa only [if_neg hc] using h
theorem Ev2.diag {f : Nat → Nat → Option R} {r : R} (h : Ev2 f r) : Ev (fun n => f n n) r := by
  obtain ⟨N, hN⟩ := h
  exact ⟨N, fun n hn => hN n n hn hn⟩
theorem Ev2.ret (i : Nat) (l : List D) : Ev2 (fun _ _ => rt i l) (i, l) := ⟨0, fun _ _ _ _ => rfl⟩
theorem Ev2.step {f g : Nat → Nat → Option R} {r : R} (h : ∀ n k, f n (k + 1) = g n k) (hg : Ev2 g r) : Ev2 f r := by
  obtain ⟨N, hN⟩ := hg
  refine ⟨N + 1, fun n k hn hk => ?_⟩
  obtain ⟨m, rfl⟩ : ∃ m, k = m + 1 := ⟨k - 1, by omega⟩
  rw [h n m]
  exact hN n m (by omega) (by omega)
theorem Ev2.bind {g : Nat → Option R} {h : Nat → Nat → R → Option R} {r1 r : R} (h1 : Ev g r1) (h2 : Ev2 (fun n k => h n k r1) r) : Ev2 (fun n k => (g n).bind (h n k)) r := by
  obtain ⟨N, hN⟩ := h1
  obtain ⟨M, hM⟩ := h2
  refine ⟨max N M, fun n k hn hk => ?_⟩
  show (g n).bind (h n k) = some r
  rw [hN n (by omega), Option.bind_some]
  exact hM n k (by omega) (by omega)
theorem Ev2.pos {c : Prop} [Decidable c] {a b : Nat → Nat → Option R} {r : R} (hc : c) (h : Ev2 a r) : Ev2 (fun n k => if c then a n k else b n k) r := by
  simpa only [if_pos hc] using h
theorem Ev2.neg {c : Prop} [Decidable c] {a b : Nat → Nat → Option R} {r : R} (hc : ¬ c) (h : Ev2 b r) : Ev2 (fun n k => if c then a n k else b n k) r := by
  simpa only [if_neg hc] using h
theorem Ev.const {f : Nat → Option R} {r : R} (h : ∀ n, f n = some r) : Ev f r := ⟨0, fun n _ => h n⟩

theorem wrap64_of {x : Int} (h1 : -9223372036854775808 ≤ x) (h2 : x ≤ 9223372036854775807) : IntKind.i64.wrap x = x := by
  simp [IntKind.wrap, IntKind.bits, IntKind.signed]
  omega
theorem inR_pos {i : Int} {n : Nat} (h1 : 0 ≤ i) (h2 : i < (n : Int)) : inR i n = true := by simp [inR, h1, h2]
theorem inR_nat {i n : Nat} (h : i < n) : inR (i : Int) n = true := inR_pos (by omega) (by omega)

/-- A token. -/
structure Tk where
  k : Int
  n : Int
  s : ByteArray
  f : Int
  t : Int
def Tk.enc (x : Tk) : D := .agg [.int x.k, .int x.n, .str x.s, .int x.f, .int x.t]
def Tk.fin : Tk := ⟨5, 0, ⟨#[]⟩, 0, 0⟩
def tokD (l : List Tk) : D := .sl (l.map Tk.enc)
def now (l : List Tk) (a : Nat) : Tk := l.getD a Tk.fin
/-- A term. -/
inductive T where
  | mk (k n : Int) (s : ByteArray) (l : List T) (f t : Int)
def T.k : T → Int | .mk k _ _ _ _ _ => k
def T.n : T → Int | .mk _ n _ _ _ _ => n
def T.s : T → ByteArray | .mk _ _ s _ _ _ => s
def T.l : T → List T | .mk _ _ _ l _ _ => l
def T.f : T → Int | .mk _ _ _ _ f _ => f
def T.t : T → Int | .mk _ _ _ _ _ t => t
mutual
def T.enc : T → D
  | .mk k n s l f t => .agg [.int k, .int n, .str s, .sl (encs l), .int f, .int t]
def encs : List T → List D
  | [] => []
  | x :: r => x.enc :: encs r
end
mutual
def T.size : T → Nat
  | .mk _ _ _ l _ _ => sizes l + 1
def sizes : List T → Nat
  | [] => 0
  | x :: r => x.size + sizes r
end
theorem encs_map : ∀ l : List T, encs l = l.map T.enc
  | [] => rfl
  | x :: r => by unfold encs; rw [encs_map r]; rfl
theorem encs_length (l : List T) : (encs l).length = l.length := by rw [encs_map, List.length_map]
theorem encs_append (a b : List T) : encs (a ++ b) = encs a ++ encs b := by simp [encs_map]
theorem encs_getD (l : List T) (i : Nat) (h : i < l.length) (z : D) : (encs l).getD i z = (l[i]).enc := by
  rw [encs_map, List.getD_eq_getElem?_getD, List.getElem?_map, List.getElem?_eq_getElem h]
  rfl
theorem T.enc_eq (x : T) : x.enc = .agg [.int x.k, .int x.n, .str x.s, .sl (encs x.l), .int x.f, .int x.t] := by
  cases x; rfl
theorem T.cell0 (x : T) : x.enc.cell 0 = .int x.k := by cases x; rfl
theorem T.cell1 (x : T) : x.enc.cell 1 = .int x.n := by cases x; rfl
theorem T.cell2 (x : T) : x.enc.cell 2 = .str x.s := by cases x; rfl
theorem T.cell3 (x : T) : x.enc.cell 3 = .sl (encs x.l) := by cases x; rfl
theorem T.cell4 (x : T) : x.enc.cell 4 = .int x.f := by cases x; rfl
theorem T.cell5 (x : T) : x.enc.cell 5 = .int x.t := by cases x; rfl
theorem sizes_append : ∀ a b : List T, sizes (a ++ b) = sizes a + sizes b
  | [], b => by simp [sizes]
  | x :: r, b => by show x.size + sizes (r ++ b) = (x.size + sizes r) + sizes b; rw [sizes_append r b]; omega
theorem length_le_sizes : ∀ l : List T, l.length ≤ sizes l
  | [] => by simp [sizes]
  | .mk _ _ _ l' _ _ :: r => by
    have := length_le_sizes r
    unfold sizes T.size
    simp only [List.length_cons]
    omega
theorem tokD_len (l : List Tk) : (tokD l).toL.length = l.length := by simp [tokD, D.toL]
theorem tokD_get (l : List Tk) {i : Nat} (h : i < l.length) (z : D) : (tokD l).toL.getD i z = (now l i).enc := by
  unfold tokD now
  simp [D.toL, List.getD_eq_getElem?_getD, List.getElem?_eq_getElem h]
end Go.Proofs.Ytkimdfpmblhapaa.Va

/- The parser's small functions. -/
set_option linter.unusedVariables false
namespace Go.Proofs.Ytkimdfpmblhapaa.Va

def isSign (l : List Tk) (a : Nat) (s : ByteArray) : Bool := (now l a).k == 4 && decide ((now l a).s = s)
def isWord (l : List Tk) (a : Nat) (s : ByteArray) : Bool := (now l a).k == 3 && decide ((now l a).s = s)
theorem tk_cell0 (x : Tk) : x.enc.cell 0 = .int x.k := rfl
theorem tk_cell1 (x : Tk) : x.enc.cell 1 = .int x.n := rfl
theorem tk_cell2 (x : Tk) : x.enc.cell 2 = .str x.s := rfl
theorem tk_cell3 (x : Tk) : x.enc.cell 3 = .int x.f := rfl
theorem tk_cell4 (x : Tk) : x.enc.cell 4 = .int x.t := rfl
theorem now_ev (l : List Tk) (a : Nat) : Ev (fun n => F29 n (tokD l) (.int a)) (0, [(now l a).enc]) := by
  refine .step (fun n => F29_eq n _ _) ?_
  simp only [D.toInt, tokD_len]
  by_cases h : a < l.length
  · rw [decide_eq_true (show (a : Int) < l.length by omega), if_pos rfl]
    simp only [inR_nat h, if_true]
    rw [show ((a : Int).toNat) = a by omega, tokD_get l h]
    exact .ret _ _
  · rw [decide_eq_false (show ¬ (a : Int) < l.length by omega)]
    simp only [Bool.false_eq_true, if_false]
    have : now l a = Tk.fin := by unfold now; rw [List.getD_eq_getElem?_getD, List.getElem?_eq_none (by omega)]; rfl
    rw [this]
    exact .ret _ _
theorem sign_ev (l : List Tk) (a : Nat) (s : ByteArray) : Ev (fun n => F30 n (tokD l) (.int a) (.str s)) (0, [.bool (isSign l a s)]) := by
  refine .step (fun n => F30_eq n _ _ _) ?_
  refine .bind (r1 := (0, [.bool (isSign l a s)])) ?_ ?_
  · refine .bind (now_ev l a) ?_
    simp only [List.getD_cons_zero, tk_cell0, D.toInt]
    unfold isSign
    by_cases h : (now l a).k = 4
    · simp only [h, BEq.rfl, if_true]
      refine .bind (now_ev l a) ?_
      simp only [List.getD_cons_zero, tk_cell2, D.toStr, Bool.true_and]
      exact .ret _ _
    · have h' : ((now l a).k == 4) = false := by simpa using h
      simp only [h', Bool.false_eq_true, if_false, Bool.false_and]
      exact .ret _ _
  · simp only [List.getD_cons_zero, D.toBool]
    exact .ret _ _
theorem word_ev (l : List Tk) (a : Nat) (s : ByteArray) : Ev (fun n => F25 n (tokD l) (.int a) (.str s)) (0, [.bool (isWord l a s)]) := by
  refine .step (fun n => F25_eq n _ _ _) ?_
  refine .bind (r1 := (0, [.bool (isWord l a s)])) ?_ ?_
  · refine .bind (now_ev l a) ?_
    simp only [List.getD_cons_zero, tk_cell0, D.toInt]
    unfold isWord
    by_cases h : (now l a).k = 3
    · simp only [h, BEq.rfl, if_true]
      refine .bind (now_ev l a) ?_
      simp only [List.getD_cons_zero, tk_cell2, D.toStr, Bool.true_and]
      exact .ret _ _
    · have h' : ((now l a).k == 3) = false := by simpa using h
      simp only [h', Bool.false_eq_true, if_false, Bool.false_and]
      exact .ret _ _
  · simp only [List.getD_cons_zero, D.toBool]
    exact .ret _ _
end Go.Proofs.Ytkimdfpmblhapaa.Va

/- What the parser comes to: a term, or a place and an error. -/
set_option linter.unusedVariables false
namespace Go.Proofs.Ytkimdfpmblhapaa.Va

def EvP (f : Nat → Option R) (Q : R → Prop) : Prop := ∃ r, Ev f r ∧ Q r
def EvP2 (f : Nat → Nat → Option R) (Q : R → Prop) : Prop := ∃ r, Ev2 f r ∧ Q r
section
variable {f g : Nat → Option R} {f2 g2 : Nat → Nat → Option R} {Q Q1 : R → Prop} {r r1 : R} {c : Prop} [Decidable c] {a b : Nat → Option R} {a2 b2 : Nat → Nat → Option R} {h : Nat → R → Option R} {h2 : Nat → Nat → R → Option R}
theorem EvP.ret {i : Nat} {l : List D} (hq : Q (i, l)) : EvP (fun _ => rt i l) Q := ⟨_, .ret i l, hq⟩
theorem EvP.of_ev (he : Ev f r) (hq : Q r) : EvP f Q := ⟨r, he, hq⟩
theorem EvP.step (hs : ∀ n, f (n + 1) = g n) (hg : EvP g Q) : EvP f Q := by
  obtain ⟨r, h1, h2⟩ := hg
  exact ⟨r, .step hs h1, h2⟩
theorem EvP.bind (h1 : EvP g Q1) (h2 : ∀ r1, Q1 r1 → EvP (fun n => h n r1) Q) : EvP (fun n => (g n).bind (h n)) Q := by
  obtain ⟨r1, h3, h4⟩ := h1
  obtain ⟨r, h5, h6⟩ := h2 r1 h4
  exact ⟨r, .bind h3 h5, h6⟩
theorem EvP.bindE (h1 : Ev g r1) (h2 : EvP (fun n => h n r1) Q) : EvP (fun n => (g n).bind (h n)) Q := by
  obtain ⟨r, h5, h6⟩ := h2
  exact ⟨r, .bind h1 h5, h6⟩
theorem EvP.ite (h1 : c → EvP a Q) (h2 : ¬ c → EvP b Q) : EvP (fun n => if c then a n else b n) Q := by
  by_cases hc : c
  · simpa only [if_pos hc] using h1 hc
  · simpa only [if_neg hc] using h2 hc
theorem EvP.mono (h1 : EvP f Q1) (h2 : ∀ r, Q1 r → Q r) : EvP f Q := by
  obtain ⟨r, h3, h4⟩ := h1
  exact ⟨r, h3, h2 r h4⟩
theorem EvP2.ret {i : Nat} {l : List D} (hq : Q (i, l)) : EvP2 (fun _ _ => rt i l) Q := ⟨_, .ret i l, hq⟩
theorem EvP2.of_ev (he : Ev2 f2 r) (hq : Q r) : EvP2 f2 Q := ⟨r, he, hq⟩
theorem EvP2.step (hs : ∀ n k, f2 n (k + 1) = g2 n k) (hg : EvP2 g2 Q) : EvP2 f2 Q := by
  obtain ⟨r, h1, h2⟩ := hg
  exact ⟨r, .step hs h1, h2⟩
theorem EvP2.bind (h1 : EvP g Q1) (h3 : ∀ r1, Q1 r1 → EvP2 (fun n k => h2 n k r1) Q) : EvP2 (fun n k => (g n).bind (h2 n k)) Q := by
  obtain ⟨r1, h4, h5⟩ := h1
  obtain ⟨r, h6, h7⟩ := h3 r1 h5
  exact ⟨r, .bind h4 h6, h7⟩
theorem EvP2.bindE (h1 : Ev g r1) (h3 : EvP2 (fun n k => h2 n k r1) Q) : EvP2 (fun n k => (g n).bind (h2 n k)) Q := by
  obtain ⟨r, h6, h7⟩ := h3
  exact ⟨r, .bind h1 h6, h7⟩
theorem EvP2.ite (h1 : c → EvP2 a2 Q) (h3 : ¬ c → EvP2 b2 Q) : EvP2 (fun n k => if c then a2 n k else b2 n k) Q := by
  by_cases hc : c
  · simpa only [if_pos hc] using h1 hc
  · simpa only [if_neg hc] using h3 hc
theorem EvP2.mono (h1 : EvP2 f2 Q1) (h3 : ∀ r, Q1 r → Q r) : EvP2 f2 Q := by
  obtain ⟨r, h4, h5⟩ := h1
  exact ⟨r, h4, h3 r h5⟩
theorem EvP2.diag (h1 : EvP2 f2 Q) : EvP (fun n => f2 n n) Q := by
  obtain ⟨r, h3, h4⟩ := h1
  exact ⟨r, h3.diag, h4⟩
end
/-- A term and the place behind it. -/
def okD (t : T) (a : Nat) : D := .agg [.int t.k, .int t.n, .str t.s, .sl (encs t.l), .int t.f, .int t.t, .int a, .int 0]
theorem okD_T (t : T) (a : Nat) : D.agg [(okD t a).cell 0, (okD t a).cell 1, (okD t a).cell 2, (okD t a).cell 3, (okD t a).cell 4, (okD t a).cell 5] = t.enc := (T.enc_eq t).symm
theorem okD_6 (t : T) (a : Nat) : (okD t a).cell 6 = .int a := rfl
theorem okD_7 (t : T) (a : Nat) : (okD t a).cell 7 = .int 0 := rfl
/-- What a parser of a part comes to. -/
def PG (N at_ : Nat) (Q : T → Nat → Prop) (d : D) : Prop :=
  (∃ (a : Nat) (e : Int), d.cell 6 = .int a ∧ d.cell 7 = .int e ∧ e ≠ 0 ∧ a < N) ∨ (∃ t a, d = okD t a ∧ at_ < a ∧ a < N ∧ Q t a)
def PR (N at_ : Nat) (Q : T → Nat → Prop) (r : R) : Prop := ∃ d, r = (0, [d]) ∧ PG N at_ Q d
structure Toks (l : List Tk) : Prop where
  pos : 0 < l.length
  small : l.length ≤ 9000
  last : ∀ a, l.length ≤ a + 1 → (now l a).k = 5
section
variable {l : List Tk}
theorem Toks.lt (h : Toks l) {a : Nat} (hk : (now l a).k ≠ 5) : a + 1 < l.length := by
  rcases Nat.lt_or_ge (a + 1) l.length with h1 | h1
  · exact h1
  · exact absurd (h.last a h1) hk
theorem Toks.sign (h : Toks l) {a : Nat} {s : ByteArray} (hs : isSign l a s = true) : a + 1 < l.length := by
  refine h.lt ?_
  unfold isSign at hs
  simp only [Bool.and_eq_true, beq_iff_eq] at hs
  rw [hs.1]
  decide
theorem Toks.word (h : Toks l) {a : Nat} {s : ByteArray} (hs : isWord l a s = true) : a + 1 < l.length := by
  refine h.lt ?_
  unfold isWord at hs
  simp only [Bool.and_eq_true, beq_iff_eq] at hs
  rw [hs.1]
  decide
theorem wrapN (a c : Nat) (h : a + c ≤ 1000000000) : IntKind.i64.wrap ((a : Int) + (c : Int)) = ((a + c : Nat) : Int) := by
  rw [wrap64_of (by omega) (by omega)]
  omega
theorem wrap1 {a : Nat} (h : a ≤ 100000) : D.int (IntKind.i64.wrap ((a : Int) + 1)) = .int ((a + 1 : Nat) : Int) := congrArg _ (wrapN a 1 (by omega))
theorem wrap2 {a : Nat} (h : a ≤ 100000) : D.int (IntKind.i64.wrap ((a : Int) + 2)) = .int ((a + 2 : Nat) : Int) := congrArg _ (wrapN a 2 (by omega))
theorem wrap3 {a : Nat} (h : a ≤ 100000) : D.int (IntKind.i64.wrap ((a : Int) + 3)) = .int ((a + 3 : Nat) : Int) := congrArg _ (wrapN a 3 (by omega))
theorem make_ev (from_ to : Nat) (h1 : from_ < l.length) (h2 : 0 < to) (h3 : to ≤ l.length) (hs : l.length ≤ 9000) (k m : Int) (s : ByteArray) (ts : List T) :
    Ev (fun n => F32 n (tokD l) (.int from_) (.int to) (.int k) (.int m) (.str s) (.sl (encs ts))) (0, [okD (.mk k m s ts (now l from_).f (now l (to - 1)).t) to]) := by
  refine .step (fun n => F32_eq n _ _ _ _ _ _ _) ?_
  have hw : IntKind.i64.wrap ((to : Int) - 1) = ((to - 1 : Nat) : Int) := by rw [wrap64_of (by omega) (by omega)]; omega
  simp only [D.toInt, tokD_len, hw, inR_nat h1, inR_nat (show to - 1 < l.length by omega), if_true]
  rw [show ((from_ : Int).toNat) = from_ by omega, show (((to - 1 : Nat) : Int).toNat) = to - 1 by omega, tokD_get l h1, tokD_get l (show to - 1 < l.length by omega)]
  exact .ret _ _
theorem bad_ev (d : D) : Ev (fun n => F28 n d) (0, [.agg [.int 0, .int 0, .str ⟨#[]⟩, .sl [], .int 0, .int 0, d, .int 6]]) := .step (fun n => F28_eq n _) (.ret _ _)
theorem PG.bad {N at_ : Nat} {Q : T → Nat → Prop} {d : D} (a : Nat) (e : Int) (h1 : d.cell 6 = .int a) (h2 : d.cell 7 = .int e) (h3 : e ≠ 0) (h4 : a < N) : PG N at_ Q d := .inl ⟨a, e, h1, h2, h3, h4⟩
theorem PR.bad {N at_ : Nat} {Q : T → Nat → Prop} {d : D} (a : Nat) (e : Int) (h1 : d.cell 6 = .int a) (h2 : d.cell 7 = .int e) (h3 : e ≠ 0) (h4 : a < N) : PR N at_ Q (0, [d]) := ⟨d, rfl, .inl ⟨a, e, h1, h2, h3, h4⟩⟩
theorem PR.ok {N at_ : Nat} {Q : T → Nat → Prop} {t : T} {a : Nat} (h1 : at_ < a) (h2 : a < N) (h3 : Q t a) : PR N at_ Q (0, [okD t a]) := ⟨_, rfl, .inr ⟨t, a, rfl, h1, h2, h3⟩⟩
/-- 'return Bad(at)'. -/
theorem ret_bad {N at_ : Nat} {Q : T → Nat → Prop} (a : Nat) (h : a < N) : EvP (fun n => (F28 n (.int a)).bind fun r2 => rt 0 [r2.2.getD 0 (D.int 0)]) (PR N at_ Q) :=
  .bindE (bad_ev _) (.ret (PR.bad a 6 rfl rfl (by decide) h))
/-- 'return Make(..)'. -/
theorem ret_make {at_ : Nat} {Q : T → Nat → Prop} (hT : Toks l) (from_ to : Nat) (h1 : from_ < l.length) (h0 : at_ < to) (h3 : to < l.length) (k m : Int) (s : ByteArray) (ts : List T)
    (hQ : ∀ f t, Q (.mk k m s ts f t) to) : EvP (fun n => (F32 n (tokD l) (.int from_) (.int to) (.int k) (.int m) (.str s) (.sl (encs ts))).bind fun r2 => rt 0 [r2.2.getD 0 (D.int 0)]) (PR l.length at_ Q) :=
  .bindE (make_ev from_ to h1 (by omega) (by omega) hT.small k m s ts) (.ret (PR.ok h0 h3 (hQ _ _)))
end
mutual
/-- An expression, a type. -/
def GE : T → Prop
  | .mk k _ _ l _ _ => 1 ≤ k ∧ k ≤ 19 ∧ (k = 19 → l = []) ∧ GEs l
def GEs : List T → Prop
  | [] => True
  | x :: r => GE x ∧ GEs r
end
/-- A good expression that stands between two places. -/
def QE (at_ : Nat) (t : T) (a : Nat) : Prop := GE t ∧ t.size ≤ 2 * (a - at_)
variable {l : List Tk}
theorem type_ev (hT : Toks l) : ∀ (d at_ : Nat), l.length - at_ ≤ d → at_ < l.length → EvP (fun n => F46 n (tokD l) (.int at_)) (PR l.length at_ (QE at_))
  | 0, at_, hd, hlt => by omega
  | d + 1, at_, hd, hlt => by
    have hs := hT.small
    refine .step (fun n => F46_eq n _ _) ?_
    refine .bindE (word_ev l at_ _) ?_
    simp only [List.getD_cons_zero, D.toBool, D.toInt]
    rw [wrap1 (by omega), wrap2 (by omega), wrap3 (by omega)]
    refine .ite (fun h => ?_) (fun h => ?_)
    · have := hT.word h
      exact ret_make hT at_ (at_ + 1) hlt (by omega) (by omega) 1 0 _ [] fun f t => ⟨⟨by decide, by decide, fun _ => rfl, trivial⟩, by simp only [T.size, sizes]; omega⟩
    refine .bindE (word_ev l at_ _) ?_
    simp only [List.getD_cons_zero, D.toBool]
    refine .ite (fun h => ?_) (fun h => ?_)
    · have := hT.word h
      exact ret_make hT at_ (at_ + 1) hlt (by omega) (by omega) 2 0 _ [] fun f t => ⟨⟨by decide, by decide, fun _ => rfl, trivial⟩, by simp only [T.size, sizes]; omega⟩
    refine .bindE (now_ev l at_) ?_
    simp only [List.getD_cons_zero, tk_cell0, D.toInt]
    refine .ite (fun h => ?_) (fun h => ?_)
    · have := hT.lt (a := at_) (by simp at h; rw [h]; decide)
      refine .bindE (now_ev l at_) ?_
      simp only [List.getD_cons_zero, tk_cell2]
      exact ret_make hT at_ (at_ + 1) hlt (by omega) (by omega) 4 0 _ [] fun f t => ⟨⟨by decide, by decide, fun _ => rfl, trivial⟩, by simp only [T.size, sizes]; omega⟩
    refine .bindE (sign_ev l at_ _) ?_
    simp only [List.getD_cons_zero, D.toBool]
    refine .ite (fun h => ret_bad at_ hlt) (fun h => ?_)
    have h1 := hT.sign (a := at_) (s := ⟨#[91]⟩) (by simpa using h)
    refine .bindE (now_ev l (at_ + 1)) ?_
    simp only [List.getD_cons_zero, tk_cell0, D.toInt]
    refine .ite (fun h => ret_bad (at_ + 1) (by omega)) (fun h2 => ?_)
    have h2 := hT.lt (a := at_ + 1) (by simp at h2; rw [h2]; decide)
    refine .bindE (sign_ev l (at_ + 2) _) ?_
    simp only [List.getD_cons_zero, D.toBool]
    refine .ite (fun h => ret_bad (at_ + 2) (by omega)) (fun h3 => ?_)
    have h3 := hT.sign (a := at_ + 2) (s := ⟨#[93]⟩) (by simpa using h3)
    refine .bind (type_ev hT d (at_ + 3) (by omega) (by omega)) ?_
    rintro _ ⟨x, rfl, ⟨a, e, h4, h5, h6, h7⟩ | ⟨t, a, rfl, h4, h5, h6, h7⟩⟩
    · simp only [List.getD_cons_zero, h5, D.toInt]
      refine .ite (fun h => .ret (PR.bad a e h4 h5 h6 h7)) (fun h => absurd h6 (by simpa using h))
    · simp only [List.getD_cons_zero, okD_T, okD_7, okD_6, D.toInt]
      refine .ite (fun h => absurd h (by decide)) (fun h => ?_)
      refine .bindE (now_ev l (at_ + 1)) ?_
      simp only [List.getD_cons_zero, tk_cell1]
      exact ret_make hT at_ a hlt (by omega) (by omega) 3 _ _ [t] fun f t' => ⟨⟨by decide, by decide, fun h => absurd h (by decide), h6, trivial⟩, by simp only [T.size, sizes]; omega⟩
end Go.Proofs.Ytkimdfpmblhapaa.Va

/- The parser: expressions. -/
set_option linter.unusedVariables false
set_option linter.unusedSimpArgs false
namespace Go.Proofs.Ytkimdfpmblhapaa.Va
variable {l : List Tk}
theorem op_loop (hT : Toks l) (a : Nat) (ha : a < l.length) (S : List ByteArray) (O : List Int) (hl : O.length = S.length) (hs : S.length ≤ 100) : ∀ (d i : Nat), S.length - i ≤ d → i ≤ S.length →
    EvP2 (fun n k => L71_3 n (tokD l) (.int a) (.sl (S.map .str)) (.sl (O.map .int)) k [.int i]) (fun r => (∃ op : Int, r = (1, [.int op]) ∧ a + 1 < l.length) ∨ r = (2, []))
  | 0, i, hd, hi => by
    refine .step (fun n k => L71_3_s n k _ _ _ _ _) ?_
    simp only [D.toInt, D.toL, List.length_map]
    refine .ite (fun h => ?_) (fun h => .ret (.inr rfl))
    simp at h
    omega
  | d + 1, i, hd, hi => by
    refine .step (fun n k => L71_3_s n k _ _ _ _ _) ?_
    simp only [D.toInt, D.toL, List.length_map]
    refine .ite (fun h => ?_) (fun h => .ret (.inr rfl))
    have hlt : i < S.length := by simp at h; omega
    refine .ite (fun _ => ?_) (fun h => absurd (inR_nat hlt) h)
    have hg : (S.map D.str).getD ((i : Int).toNat) (.int 0) = .str (S[i]) := by simp [hlt]
    have hg2 : (O.map D.int).getD ((i : Int).toNat) (.int 0) = .int (O[i]'(by omega)) := by simp [show i < O.length by omega]
    rw [hg, hg2]
    refine .bindE (sign_ev l a _) ?_
    simp only [List.getD_cons_zero, D.toBool]
    refine .ite (fun h => ?_) (fun h => ?_)
    · refine .ite (fun _ => .ret (.inl ⟨_, rfl, hT.sign h⟩)) (fun h => absurd (inR_nat (by omega)) h)
    · rw [wrap1 (by omega)]
      exact op_loop hT a ha S O hl hs d (i + 1) (by omega) (by omega)
theorem ops_ev (lv : Nat) (h : lv ≤ 5) : ∃ (S : List ByteArray) (O : List Int), O.length = S.length ∧ S.length ≤ 100 ∧ Ev (fun n => F74 n (.int lv)) (0, [.sl (S.map .str), .sl (O.map .int)]) := by
  have step : ∀ r, Ev _ r → Ev (fun n => F74 n (.int lv)) r := fun r h => .step (fun n => F74_eq n _) h
  simp only [D.toInt] at step
  by_cases h1 : lv = 1
  · subst h1; exact ⟨[_], [_], rfl, by decide, step _ (.ret _ _)⟩
  by_cases h2 : lv = 2
  · subst h2; exact ⟨[_], [_], rfl, by decide, step _ (.ret _ _)⟩
  by_cases h3 : lv = 3
  · subst h3; exact ⟨[_, _, _, _, _, _], [_, _, _, _, _, _], rfl, by decide, step _ (.ret _ _)⟩
  by_cases h4 : lv = 4
  · subst h4; exact ⟨[_, _], [_, _], rfl, by decide, step _ (.ret _ _)⟩
  refine ⟨[⟨#[42]⟩, ⟨#[47]⟩, ⟨#[37]⟩], [11, 12, 13], rfl, by decide, step _ ?_⟩
  simp only [show ((lv : Int) == 1) = false by simp; omega, show ((lv : Int) == 2) = false by simp; omega, show ((lv : Int) == 3) = false by simp; omega, show ((lv : Int) == 4) = false by simp; omega, Bool.false_eq_true, if_false]
  exact .ret _ _
theorem op_ev (hT : Toks l) (a lv : Nat) (ha : a < l.length) (h : lv ≤ 5) : EvP (fun n => F71 n (tokD l) (.int a) (.int lv)) (fun r => ∃ op : Int, r = (0, [.int op]) ∧ (op ≠ 0 → a + 1 < l.length)) := by
  obtain ⟨S, O, h1, h2, h3⟩ := ops_ev lv h
  refine .step (fun n => F71_eq n _ _ _) ?_
  refine .bindE h3 ?_
  simp only [List.getD_cons_zero, List.getD_cons_succ]
  refine .bind (op_loop hT a ha S O h1 h2 _ 0 (Nat.le_refl _) (Nat.zero_le _)).diag ?_
  rintro _ (⟨op, rfl, h4⟩ | rfl)
  · exact .ret ⟨op, rfl, fun _ => h4⟩
  · exact .ret ⟨0, rfl, fun h => absurd rfl h⟩
/-- What an expression is at a place. -/
def ExprAt (l : List Tk) (at_ : Nat) : Prop := EvP (fun n => F60 n (tokD l) (.int at_)) (PR l.length at_ (QE at_))
def UnAt (l : List Tk) (at_ : Nat) : Prop := EvP (fun n => F70 n (tokD l) (.int at_)) (PR l.length at_ (QE at_))
def LevelAt (l : List Tk) (at_ lv : Nat) : Prop := EvP (fun n => F65 n (tokD l) (.int at_) (.int lv)) (PR l.length at_ (QE at_))
structure AllAt (l : List Tk) (at_ : Nat) : Prop where
  ex : ExprAt l at_
  un : UnAt l at_
  lv : ∀ lv, 1 ≤ lv → lv ≤ 6 → LevelAt l at_ lv
/-- Terms and the place behind them, or a place and an error. -/
def PL (s N at_ : Nat) (r : R) : Prop := ∃ (ts : List T) (a : Nat) (e : Int), r = (0, [.sl (encs ts), .int a, .int e]) ∧ a < N ∧ (e ≠ 0 ∨ (at_ < a ∧ GEs ts ∧ sizes ts + s ≤ 2 * (a - at_)))
theorem GEs_append : ∀ {a b : List T}, GEs a → GEs b → GEs (a ++ b)
  | [], b, _, h => h
  | x :: r, b, h1, h2 => ⟨h1.1, GEs_append h1.2 h2⟩
/-- What follows a part of a term: an error is handed on. -/
theorem PR.split {N at_ : Nat} {Q : T → Nat → Prop} {Q' : R → Prop} {h : Nat → R → Option R} {g : Nat → Option R} (hg : EvP g (PR N at_ Q)) (h1 : ∀ d (a : Nat) (e : Int), d.cell 6 = .int a → d.cell 7 = .int e → e ≠ 0 → a < N → EvP (fun n => h n (0, [d])) Q')
    (h2 : ∀ t a, at_ < a → a < N → Q t a → EvP (fun n => h n (0, [okD t a])) Q') : EvP (fun n => (g n).bind (h n)) Q' := by
  refine .bind hg ?_
  rintro _ ⟨x, rfl, ⟨a, e, h4, h5, h6, h7⟩ | ⟨t, a, rfl, h4, h5, h6⟩⟩
  · exact h1 x a e h4 h5 h6 h7
  · exact h2 t a h4 h5 h6
theorem PR.split2 {N at_ : Nat} {Q : T → Nat → Prop} {Q' : R → Prop} {h : Nat → Nat → R → Option R} {g : Nat → Option R} (hg : EvP g (PR N at_ Q)) (h1 : ∀ d (a : Nat) (e : Int), d.cell 6 = .int a → d.cell 7 = .int e → e ≠ 0 → a < N → EvP2 (fun n k => h n k (0, [d])) Q')
    (h2 : ∀ t a, at_ < a → a < N → Q t a → EvP2 (fun n k => h n k (0, [okD t a])) Q') : EvP2 (fun n k => (g n).bind (h n k)) Q' := by
  refine .bind hg ?_
  rintro _ ⟨x, rfl, ⟨a, e, h4, h5, h6, h7⟩ | ⟨t, a, rfl, h4, h5, h6⟩⟩
  · exact h1 x a e h4 h5 h6 h7
  · exact h2 t a h4 h5 h6
theorem list_loop (hT : Toks l) (at0 : Nat) : ∀ (d a : Nat) (ts : List T), l.length - a ≤ d → at0 ≤ a → a < l.length → (∀ b, a ≤ b → b < l.length → ExprAt l b) → GEs ts → sizes ts ≤ 2 * (a - at0) →
    EvP2 (fun n k => L72_2 n (tokD l) k [.sl (encs ts), .int a]) (fun r => ∃ (ts : List T) (b : Nat) (e : Int), r = (1, [.sl (encs ts), .int b, .int e]) ∧ b < l.length ∧ (e ≠ 0 ∨ (at0 < b ∧ GEs ts ∧ sizes ts ≤ 2 * (b - at0))))
  | 0, a, ts, hd, h0, ha, hE, hG, hS => by omega
  | d + 1, a, ts, hd, h0, ha, hE, hG, hS => by
    have hs := hT.small
    refine .step (fun n k => L72_2_s n k _ _ _) ?_
    refine PR.split2 (hE a (Nat.le_refl _) ha) (fun x b e h4 h5 h6 h7 => ?_) (fun t b h4 h5 h6 => ?_)
    · simp only [List.getD_cons_zero, h5, h4, D.toInt]
      refine .ite (fun h => .ret ⟨ts, b, e, rfl, h7, .inl h6⟩) (fun h => absurd h6 (by simpa using h))
    · simp only [List.getD_cons_zero, okD_T, okD_7, okD_6, D.toInt, D.toL]
      refine .ite (fun h => absurd h (by decide)) (fun h => ?_)
      have hlen := length_le_sizes ts
      refine .ite (fun _ => ?_) (fun h => absurd (by simp [encs_length]; omega) h)
      have happ : encs ts ++ [t.enc] = encs (ts ++ [t]) := by rw [encs_append]; rfl
      rw [happ]
      have hG' : GEs (ts ++ [t]) := GEs_append hG ⟨h6.1, trivial⟩
      have hS' : sizes (ts ++ [t]) ≤ 2 * (b - at0) := by
        rw [sizes_append]
        simp only [sizes]
        have := h6.2
        omega
      refine .bindE (sign_ev l b _) ?_
      simp only [List.getD_cons_zero, D.toBool]
      refine .ite (fun h => .ret ⟨_, b, 0, rfl, h5, .inr ⟨by omega, hG', hS'⟩⟩) (fun h => ?_)
      have hb := hT.sign (a := b) (s := ⟨#[44]⟩) (by simpa using h)
      rw [wrap1 (by omega)]
      exact list_loop hT at0 d (b + 1) (ts ++ [t]) (by omega) (by omega) (by omega) (fun c hc hc2 => hE c (by omega) hc2) hG' (by omega)
theorem list_ev (hT : Toks l) (a : Nat) (ha : a < l.length) (hE : ∀ b, a ≤ b → b < l.length → ExprAt l b) : EvP (fun n => F72 n (tokD l) (.int a)) (PL 0 l.length a) := by
  refine .step (fun n => F72_eq n _ _) ?_
  refine .bind (list_loop hT a _ a [] (Nat.le_refl _) (Nat.le_refl _) ha hE trivial (Nat.zero_le _)).diag ?_
  rintro _ ⟨ts, b, e, rfl, h1, h2⟩
  exact .ret ⟨ts, b, e, rfl, h1, h2⟩
theorem closed_ev (hT : Toks l) (a : Nat) (ha : a < l.length) (few : Bool) (s1 s2 : ByteArray) (hE : ∀ b, a < b → b < l.length → ExprAt l b) :
    EvP (fun n => F66 n (tokD l) (.int a) (.bool few) (.str s1) (.str s2)) (PL 2 l.length a) := by
  have hs := hT.small
  refine .step (fun n => F66_eq n _ _ _ _ _) ?_
  refine .bindE (sign_ev l a s1) ?_
  simp only [List.getD_cons_zero, D.toBool, D.toInt]
  rw [wrap1 (by omega), wrap2 (by omega)]
  refine .ite (fun h => .ret ⟨[], a, 6, rfl, ha, .inl (by decide)⟩) (fun h => ?_)
  have h1 := hT.sign (a := a) (s := s1) (by simpa using h)
  refine .bind (Q1 := fun r => r = (0, [.bool (few && isSign l (a + 1) s2)])) ?_ ?_
  · refine .ite (fun h => ?_) (fun h => ?_)
    · refine .bindE (sign_ev l (a + 1) s2) ?_
      simp only [List.getD_cons_zero, D.toBool]
      refine .ret ?_
      rw [h]
      rfl
    · refine .ret ?_
      rw [show few = false by simpa using h]
      rfl
  rintro _ rfl
  simp only [List.getD_cons_zero, D.toBool]
  refine .ite (fun h => ?_) (fun h => ?_)
  · have h2 := hT.sign (a := a + 1) (s := s2) (by simp at h; exact h.2)
    exact .ret ⟨[], a + 2, 0, rfl, by omega, .inr ⟨by omega, trivial, by simp [sizes]⟩⟩
  refine .bind (list_ev hT (a + 1) (by omega) (fun b hb => hE b (by omega))) ?_
  rintro _ ⟨ts, b, e, rfl, h3, h4⟩
  simp only [List.getD_cons_zero, List.getD_cons_succ, D.toInt]
  refine .ite (fun h => .ret ⟨ts, b, e, rfl, h3, .inl (by simpa using h)⟩) (fun h => ?_)
  have he : e = 0 := by simpa using h
  subst he
  obtain ⟨h5, h6, h7⟩ := h4.resolve_left (fun h => h rfl)
  refine .bindE (sign_ev l b s2) ?_
  simp only [List.getD_cons_zero, D.toBool]
  refine .ite (fun h => .ret ⟨ts, b, 6, rfl, h3, .inl (by decide)⟩) (fun h => ?_)
  have h8 := hT.sign (a := b) (s := s2) (by simpa using h)
  rw [wrap1 (by omega)]
  exact .ret ⟨ts, b + 1, 0, rfl, by omega, .inr ⟨by omega, h6, by omega⟩⟩
end Go.Proofs.Ytkimdfpmblhapaa.Va

/- The parser: expressions, all of them. -/
set_option linter.unusedVariables false
set_option linter.unusedSimpArgs false
namespace Go.Proofs.Ytkimdfpmblhapaa.Va
variable {l : List Tk}
theorem PL.split {s N at_ : Nat} {Q' : R → Prop} {h : Nat → R → Option R} {g : Nat → Option R} (hg : EvP g (PL s N at_)) (h1 : ∀ ts (a : Nat) (e : Int), e ≠ 0 → a < N → EvP (fun n => h n (0, [.sl (encs ts), .int a, .int e])) Q')
    (h2 : ∀ ts (a : Nat), at_ < a → a < N → GEs ts → sizes ts + s ≤ 2 * (a - at_) → EvP (fun n => h n (0, [.sl (encs ts), .int a, .int 0])) Q') : EvP (fun n => (g n).bind (h n)) Q' := by
  refine .bind hg ?_
  rintro _ ⟨ts, a, e, rfl, h3, h4⟩
  by_cases he : e = 0
  · subst he
    obtain ⟨h5, h6, h7⟩ := h4.resolve_left (fun h => h rfl)
    exact h2 ts a h5 h3 h6 h7
  · exact h1 ts a e he h3
theorem ge_mk {k n f t : Int} {s : ByteArray} {ts : List T} (h1 : 1 ≤ k) (h2 : k ≤ 18) (h : GEs ts) : GE (.mk k n s ts f t) := ⟨h1, by omega, fun h => by omega, h⟩
theorem ge_leaf {k n f t : Int} {s : ByteArray} (h1 : 1 ≤ k) (h2 : k ≤ 19) : GE (.mk k n s [] f t) := ⟨h1, h2, fun _ => rfl, trivial⟩
theorem size_mk (k n f t : Int) (s : ByteArray) (ts : List T) : T.size (.mk k n s ts f t) = sizes ts + 1 := by unfold T.size; rfl
theorem called_ev (hT : Toks l) (a : Nat) (ha : a < l.length) (hE : ∀ b, a < b → b < l.length → ExprAt l b) : EvP (fun n => F61 n (tokD l) (.int a)) (PR l.length a (QE a)) := by
  have hs := hT.small
  refine .step (fun n => F61_eq n _ _) ?_
  refine .bindE (now_ev l a) ?_
  simp only [List.getD_cons_zero, tk_cell0, tk_cell2, D.toInt]
  rw [wrap1 (by omega), wrap2 (by omega)]
  refine .ite (fun h => ?_) (fun h => ?_)
  · have h1 := hT.lt (a := a) (by simp at h; rw [h]; decide)
    refine .bindE (now_ev l a) ?_
    refine PL.split (closed_ev hT (a + 1) h1 true _ _ (fun b hb => hE b (by omega))) (fun ts b e he hb => ?_) (fun ts b h2 hb hG hS => ?_)
    · simp only [List.getD_cons_zero, List.getD_cons_succ, D.toInt]
      exact .ite (fun h => .ret (PR.bad b e rfl rfl he hb)) (fun h => absurd he (by simpa using h))
    · simp only [List.getD_cons_zero, List.getD_cons_succ, D.toInt, tk_cell2]
      refine .ite (fun h => absurd h (by decide)) (fun h => ?_)
      exact ret_make hT a b ha (by omega) hb 16 0 _ ts fun f t => ⟨ge_mk (by decide) (by decide) hG, by rw [size_mk]; omega⟩
  refine .bindE (sign_ev l a _) ?_
  simp only [List.getD_cons_zero, D.toBool]
  refine .ite (fun h => ?_) (fun h => ?_)
  · refine PL.split (closed_ev hT a ha false _ _ (fun b hb => hE b (by omega))) (fun ts b e he hb => ?_) (fun ts b h2 hb hG hS => ?_)
    · simp only [List.getD_cons_zero, List.getD_cons_succ, D.toInt]
      exact .ite (fun h => .ret (PR.bad b e rfl rfl he hb)) (fun h => absurd he (by simpa using h))
    · simp only [List.getD_cons_zero, List.getD_cons_succ, D.toInt]
      refine .ite (fun h => absurd h (by decide)) (fun h => ?_)
      exact ret_make hT a b ha (by omega) hb 14 0 _ ts fun f t => ⟨ge_mk (by decide) (by decide) hG, by rw [size_mk]; omega⟩
  refine .bind (Q1 := fun r => r = (0, [.bool (isSign l a ⟨#[64]⟩ || isWord l a ⟨#[110, 101, 119]⟩)])) ?_ ?_
  · refine .bindE (sign_ev l a _) ?_
    simp only [List.getD_cons_zero, D.toBool]
    refine .ite (fun h => ?_) (fun h => .ret (by rw [show isSign l a ⟨#[64]⟩ = true by simpa using h]; rfl))
    refine .bindE (word_ev l a _) ?_
    simp only [List.getD_cons_zero, D.toBool]
    exact .ret (by rw [h]; rfl)
  rintro _ rfl
  simp only [List.getD_cons_zero, D.toBool]
  refine .ite (fun h => ?_) (fun h => ret_bad a ha)
  have h1 : a + 1 < l.length := by
    rw [Bool.or_eq_true] at h
    rcases h with h | h
    · exact hT.sign h
    · exact hT.word h
  refine .bindE (now_ev l (a + 1)) ?_
  simp only [List.getD_cons_zero, tk_cell0, D.toInt]
  refine .ite (fun h => ret_bad (a + 1) h1) (fun h2 => ?_)
  have h2 := hT.lt (a := a + 1) (by simp at h2; rw [h2]; decide)
  refine .bindE (now_ev l (a + 1)) ?_
  refine .bindE (word_ev l a _) ?_
  simp only [List.getD_cons_zero, D.toBool, tk_cell2]
  refine .bind (Q1 := fun r => ∃ (k : Int) (b : Bool), r = (0, [.int k, .bool b]) ∧ 1 ≤ k ∧ k ≤ 18) ?_ ?_
  · exact .ite (fun _ => .ret ⟨15, false, rfl, by decide, by decide⟩) (fun _ => .ret ⟨17, true, rfl, by decide, by decide⟩)
  rintro _ ⟨k, few, rfl, hk1, hk2⟩
  simp only [List.getD_cons_zero, List.getD_cons_succ, D.toBool]
  refine PL.split (closed_ev hT (a + 2) h2 few _ _ (fun b hb => hE b (by omega))) (fun ts b e he hb => ?_) (fun ts b h2 hb hG hS => ?_)
  · simp only [List.getD_cons_zero, List.getD_cons_succ, D.toInt]
    exact .ite (fun h => .ret (PR.bad b e rfl rfl he hb)) (fun h => absurd he (by simpa using h))
  · simp only [List.getD_cons_zero, List.getD_cons_succ, D.toInt]
    refine .ite (fun h => absurd h (by decide)) (fun h => ?_)
    exact ret_make hT a b ha (by omega) hb k 0 _ ts fun f t => ⟨ge_mk hk1 hk2 hG, by rw [size_mk]; omega⟩
theorem atom_ev (hT : Toks l) (a : Nat) (ha : a < l.length) (hE : ∀ b, a < b → b < l.length → ExprAt l b) : EvP (fun n => F47 n (tokD l) (.int a)) (PR l.length a (QE a)) := by
  have hs := hT.small
  have leaf : ∀ (k m : Int) (s : ByteArray), a + 1 < l.length → 1 ≤ k → k ≤ 19 → EvP (fun n => (F32 n (tokD l) (.int a) (.int ((a + 1 : Nat) : Int)) (.int k) (.int m) (.str s) (.sl (encs []))).bind fun r2 => rt 0 [r2.2.getD 0 (D.int 0)]) (PR l.length a (QE a)) := fun k m s h h1 h2 =>
    ret_make hT a (a + 1) ha (by omega) h k m s [] fun f t => ⟨ge_leaf h1 h2, by rw [size_mk]; simp only [sizes]; omega⟩
  refine .step (fun n => F47_eq n _ _) ?_
  refine .bindE (now_ev l a) ?_
  simp only [List.getD_cons_zero, tk_cell0, tk_cell1, tk_cell2, D.toInt]
  rw [wrap1 (by omega)]
  refine .ite (fun h => ?_) (fun h0 => ?_)
  · exact leaf 5 _ _ (hT.lt (a := a) (by simp at h; rw [h]; decide)) (by decide) (by decide)
  refine .bindE (word_ev l a _) ?_
  simp only [List.getD_cons_zero, D.toBool]
  refine .ite (fun h => leaf 6 1 _ (hT.word h) (by decide) (by decide)) (fun h => ?_)
  refine .bindE (word_ev l a _) ?_
  simp only [List.getD_cons_zero, D.toBool]
  refine .ite (fun h => leaf 6 0 _ (hT.word h) (by decide) (by decide)) (fun h => ?_)
  refine .bindE (word_ev l a _) ?_
  simp only [List.getD_cons_zero, D.toBool]
  refine .ite (fun h => leaf 18 0 _ (hT.word h) (by decide) (by decide)) (fun h => ?_)
  refine .bind (Q1 := fun r => ∃ b, r = (0, [.bool b]) ∧ (b = true → (now l a).k = 1)) ?_ ?_
  · refine .ite (fun h => ?_) (fun h => .ret ⟨_, rfl, fun h => by cases h⟩)
    refine .bindE (sign_ev l (a + 1) _) ?_
    exact .ret ⟨_, rfl, fun _ => by simpa using h⟩
  rintro _ ⟨b, rfl, hb⟩
  simp only [List.getD_cons_zero, D.toBool]
  refine .ite (fun h => leaf 19 0 _ (hT.lt (by rw [hb h]; decide)) (by decide) (by decide)) (fun h => ?_)
  refine .bindE (sign_ev l a _) ?_
  simp only [List.getD_cons_zero, D.toBool]
  refine .ite (fun h => ?_) (fun h => ?_)
  · have h1 := hT.sign h
    refine PR.split (hE (a + 1) (by omega) h1) (fun x c e h4 h5 h6 h7 => ?_) (fun t c h4 h5 h6 => ?_)
    · simp only [List.getD_cons_zero, h5, D.toInt]
      refine .bindE (r1 := (0, [.bool false])) (.neg (by simpa using h6) (.ret _ _)) ?_
      simp only [List.getD_cons_zero, D.toBool]
      refine .ite (fun h => by cases h) (fun _ => ?_)
      refine .bindE (r1 := (0, [x])) (.neg (by simpa using h6) (.ret _ _)) ?_
      exact .ret (PR.bad c e h4 h5 h6 h7)
    · simp only [List.getD_cons_zero, okD_7, okD_6, D.toInt]
      refine .bindE (r1 := (0, [.bool (!isSign l c ⟨#[41]⟩)])) ?_ ?_
      · refine .pos (by decide) ?_
        refine .bind (sign_ev l c _) ?_
        exact .ret _ _
      simp only [List.getD_cons_zero, D.toBool]
      refine .ite (fun _ => ret_bad c h5) (fun h8 => ?_)
      have h9 := hT.sign (a := c) (s := ⟨#[41]⟩) (by simpa using h8)
      rw [wrap1 (by omega)]
      refine .bindE (r1 := (0, [okD t (c + 1)])) (.pos (by decide) (.ret _ _)) ?_
      exact .ret (PR.ok (by omega) (by omega) ⟨h6.1, by have := h6.2; omega⟩)
  · refine .bind (called_ev hT a ha hE) ?_
    rintro _ ⟨d, rfl, hd⟩
    exact .ret ⟨d, rfl, hd⟩
theorem post_loop (hT : Toks l) (a : Nat) (ha : a < l.length) (hE : ∀ b, a < b → b < l.length → ExprAt l b) (y0 : D) : ∀ (d c : Nat) (t : T), l.length - c ≤ d → a < c → c < l.length → QE a t c →
    EvP2 (fun n k => L73_2 n (tokD l) (.int a) k [y0, okD t c]) (fun r => ∃ d y, r = (1, [d, y]) ∧ PG l.length a (QE a) d)
  | 0, c, t, hd, h0, hc, hq => by omega
  | d + 1, c, t, hd, h0, hc, hq => by
    have hs := hT.small
    have hsz := hq.2
    refine .step (fun n k => L73_2_s n k _ _ _ _) ?_
    simp only [okD_T, okD_7, okD_6, D.toInt]
    rw [wrap1 (by omega), wrap2 (by omega)]
    refine .ite (fun _ => ?_) (fun h => absurd (by decide) h)
    refine .bindE (sign_ev l c _) ?_
    simp only [List.getD_cons_zero, D.toBool]
    refine .ite (fun h => ?_) (fun h => ?_)
    · have h1 := hT.sign h
      refine PR.split2 (hE (c + 1) (by omega) h1) (fun x b e h4 h5 h6 h7 => ?_) (fun t2 b h4 h5 h6 => ?_)
      · simp only [List.getD_cons_zero, h5, D.toInt]
        exact .ite (fun _ => .ret ⟨_, _, rfl, PG.bad b e h4 h5 h6 h7⟩) (fun h => absurd h6 (by simpa using h))
      · simp only [List.getD_cons_zero, okD_T, okD_7, okD_6, D.toInt]
        refine .ite (fun h => absurd h (by decide)) (fun _ => ?_)
        refine .bindE (sign_ev l b _) ?_
        simp only [List.getD_cons_zero, D.toBool]
        refine .ite (fun h8 => ?_) (fun h8 => ?_)
        · refine .bindE (bad_ev _) ?_
          exact .ret ⟨_, _, rfl, PG.bad b 6 rfl rfl (by decide) h5⟩
        · have h9 := hT.sign (a := b) (s := ⟨#[93]⟩) (by simpa using h8)
          rw [wrap1 (by omega)]
          refine .bindE (make_ev (l := l) a (b + 1) ha (by omega) (by omega) hs 12 0 _ [t, t2]) ?_
          simp only [List.getD_cons_zero]
          have := h6.2
          exact post_loop hT a ha hE y0 d (b + 1) _ (by omega) (by omega) (by omega) ⟨ge_mk (by decide) (by decide) ⟨hq.1, h6.1, trivial⟩, by rw [size_mk]; simp only [sizes]; omega⟩
    · refine .bindE (sign_ev l c _) ?_
      simp only [List.getD_cons_zero, D.toBool]
      refine .ite (fun h1 => ?_) (fun h1 => .ret ⟨_, _, rfl, .inr ⟨t, c, rfl, h0, hc, hq⟩⟩)
      have h1 := hT.sign h1
      refine .bindE (now_ev l (c + 1)) ?_
      simp only [List.getD_cons_zero, tk_cell0, tk_cell2, D.toInt]
      refine .ite (fun h2 => ?_) (fun h2 => ?_)
      · refine .bindE (bad_ev _) ?_
        exact .ret ⟨_, _, rfl, PG.bad (c + 1) 6 rfl rfl (by decide) h1⟩
      · have h3 := hT.lt (a := c + 1) (by simp at h2; rw [h2]; decide)
        refine .bindE (make_ev (l := l) a (c + 2) ha (by omega) (by omega) hs 13 0 _ [t]) ?_
        simp only [List.getD_cons_zero]
        exact post_loop hT a ha hE y0 d (c + 2) _ (by omega) (by omega) (by omega) ⟨ge_mk (by decide) (by decide) ⟨hq.1, trivial⟩, by rw [size_mk]; simp only [sizes]; omega⟩
theorem post_ev (hT : Toks l) (a : Nat) (ha : a < l.length) (hE : ∀ b, a < b → b < l.length → ExprAt l b) : EvP (fun n => F73 n (tokD l) (.int a)) (PR l.length a (QE a)) := by
  refine .step (fun n => F73_eq n _ _) ?_
  refine PR.split (atom_ev hT a ha hE) (fun x b e h4 h5 h6 h7 => ?_) (fun t b h4 h5 h6 => ?_)
  · simp only [List.getD_cons_zero]
    refine .bindE (r1 := (2, [D.agg [D.int 0, D.int 0, D.str ⟨#[]⟩, D.sl [], D.int 0, D.int 0, D.int 0, D.int 0], x])) (Ev2.diag (f := fun n k => L73_2 n (tokD l) (.int a) k [D.agg [D.int 0, D.int 0, D.str ⟨#[]⟩, D.sl [], D.int 0, D.int 0, D.int 0, D.int 0], x]) (.step (fun n k => L73_2_s n k _ _ _ _) ?_)) ?_
    · simp only [List.getD_cons_zero, h5, D.toInt]
      exact .neg (by simpa using h6) (.ret _ _)
    · exact .ret (PR.bad b e h4 h5 h6 h7)
  · simp only [List.getD_cons_zero]
    refine .bind (post_loop hT a ha hE _ _ b t (Nat.le_refl _) h4 h5 h6).diag ?_
    rintro _ ⟨d, y, rfl, hd⟩
    exact .ret ⟨d, rfl, hd⟩
theorem un_ev (hT : Toks l) (a : Nat) (ha : a < l.length) (hE : ∀ b, a < b → b < l.length → ExprAt l b) (hU : ∀ b, a < b → b < l.length → UnAt l b) : UnAt l a := by
  have hs := hT.small
  refine .step (fun n => F70_eq n _ _) ?_
  refine .bindE (sign_ev l a _) ?_
  refine .bind (Q1 := fun r => ∃ op : Int, r = (0, [.int op]) ∧ (op ≠ 0 → a + 1 < l.length)) ?_ ?_
  · simp only [List.getD_cons_zero, D.toBool]
    exact .ite (fun h => .ret ⟨1, rfl, fun _ => hT.sign h⟩) (fun _ => .ret ⟨0, rfl, fun h => absurd rfl h⟩)
  rintro _ ⟨op1, rfl, h1⟩
  refine .bindE (sign_ev l a _) ?_
  refine .bind (Q1 := fun r => ∃ op : Int, r = (0, [.int op]) ∧ (op ≠ 0 → a + 1 < l.length)) ?_ ?_
  · simp only [List.getD_cons_zero, D.toBool]
    exact .ite (fun h => .ret ⟨2, rfl, fun _ => hT.sign h⟩) (fun _ => .ret ⟨op1, rfl, h1⟩)
  rintro _ ⟨op, rfl, h2⟩
  simp only [List.getD_cons_zero, D.toInt]
  refine .ite (fun h => ?_) (fun h => ?_)
  · refine .bind (post_ev hT a ha hE) ?_
    rintro _ ⟨d, rfl, hd⟩
    exact .ret ⟨d, rfl, hd⟩
  · have h3 := h2 (by simpa using h)
    rw [wrap1 (by omega)]
    refine PR.split (hU (a + 1) (by omega) h3) (fun x b e h4 h5 h6 h7 => ?_) (fun t b h4 h5 h6 => ?_)
    · simp only [List.getD_cons_zero, h5, D.toInt]
      exact .ite (fun _ => .ret (PR.bad b e h4 h5 h6 h7)) (fun h => absurd h6 (by simpa using h))
    · simp only [List.getD_cons_zero, okD_T, okD_7, okD_6, D.toInt]
      refine .ite (fun h => absurd h (by decide)) (fun _ => ?_)
      have := h6.2
      exact ret_make hT a b ha (by omega) h5 11 _ _ [t] fun f t' => ⟨ge_mk (by decide) (by decide) ⟨h6.1, trivial⟩, by rw [size_mk]; simp only [sizes]; omega⟩
theorem level_loop (hT : Toks l) (a lv : Nat) (ha : a < l.length) (hlv : lv ≤ 5) (hE : ∀ b, a < b → b < l.length → LevelAt l b (lv + 1)) (y1 : D) : ∀ (d c : Nat) (t : T) (m : Int), l.length - c ≤ d → a < c → c < l.length → QE a t c →
    EvP2 (fun n k => L65_5 n (tokD l) (.int a) (.int lv) k [.int m, y1, okD t c]) (fun r => ∃ d y, r = (1, [d, y]) ∧ PG l.length a (QE a) d)
  | 0, c, t, m, hd, h0, hc, hq => by omega
  | d + 1, c, t, m, hd, h0, hc, hq => by
    have hs := hT.small
    have hsz := hq.2
    refine .step (fun n k => L65_5_s n k _ _ _ _ _ _) ?_
    simp only [okD_T, okD_7, okD_6, D.toInt]
    rw [wrap1 (by omega), wrap1 (by omega)]
    refine .ite (fun _ => ?_) (fun h => absurd (by decide) h)
    refine .bind (op_ev hT c lv hc hlv) ?_
    rintro _ ⟨op, rfl, hop⟩
    refine .bind (Q1 := fun r => ∃ b : Bool, r = (0, [.bool b]) ∧ (b = false → op ≠ 0)) ?_ ?_
    · simp only [List.getD_cons_zero, D.toInt]
      refine .ite (fun h => ?_) (fun h => .ret ⟨true, rfl, fun h => by cases h⟩)
      have hne : op ≠ 0 := by simpa using h
      exact .ite (fun _ => .ret ⟨_, rfl, fun _ => hne⟩) (fun _ => .ret ⟨_, rfl, fun _ => hne⟩)
    rintro _ ⟨b, rfl, hb⟩
    simp only [List.getD_cons_zero, D.toBool]
    refine .ite (fun h => .ret ⟨_, _, rfl, .inr ⟨t, c, rfl, h0, hc, hq⟩⟩) (fun h => ?_)
    have h1 := hop (hb (by simpa using h))
    refine PR.split2 (hE (c + 1) (by omega) h1) (fun x b e h4 h5 h6 h7 => ?_) (fun t2 b h4 h5 h6 => ?_)
    · simp only [List.getD_cons_zero, h5, D.toInt]
      exact .ite (fun _ => .ret ⟨_, _, rfl, PG.bad b e h4 h5 h6 h7⟩) (fun h => absurd h6 (by simpa using h))
    · simp only [List.getD_cons_zero, okD_T, okD_7, okD_6, D.toInt]
      refine .ite (fun h => absurd h (by decide)) (fun _ => ?_)
      refine .bindE (make_ev (l := l) a b ha (by omega) (by omega) hs 10 op _ [t, t2]) ?_
      simp only [List.getD_cons_zero]
      have := h6.2
      exact level_loop hT a lv ha hlv hE y1 d b _ _ (by omega) (by omega) (by omega) ⟨ge_mk (by decide) (by decide) ⟨hq.1, h6.1, trivial⟩, by rw [size_mk]; simp only [sizes]; omega⟩
theorem level_ev (hT : Toks l) (a : Nat) (ha : a < l.length) (hU : UnAt l a) (hL : ∀ b, a < b → b < l.length → ∀ lv, 1 ≤ lv → lv ≤ 6 → LevelAt l b lv) : ∀ (d lv : Nat), 6 - lv = d → 1 ≤ lv → lv ≤ 6 → LevelAt l a lv
  | 0, lv, hd, h1, h2 => by
    have : lv = 6 := by omega
    subst this
    refine .step (fun n => F65_eq n _ _ _) ?_
    refine .ite (fun _ => ?_) (fun h => absurd (by decide) h)
    refine .bind hU ?_
    rintro _ ⟨d, rfl, hd⟩
    exact .ret ⟨d, rfl, hd⟩
  | d + 1, lv, hd, h1, h2 => by
    refine .step (fun n => F65_eq n _ _ _) ?_
    simp only [D.toInt]
    rw [wrap1 (by omega)]
    refine .ite (fun h => ?_) (fun _ => ?_)
    · simp at h; omega
    refine PR.split (level_ev hT a ha hU hL d (lv + 1) (by omega) (by omega) (by omega)) (fun x b e h4 h5 h6 h7 => ?_) (fun t b h4 h5 h6 => ?_)
    · simp only [List.getD_cons_zero]
      refine .bindE (r1 := (2, [D.agg [D.int 0, D.int 0, D.str ⟨#[]⟩, D.sl [], D.int 0, D.int 0, D.int 0, D.int 0], x])) (Ev2.diag (f := fun n k => L65_5 n (tokD l) (.int a) (.int lv) k [.int 0, D.agg [D.int 0, D.int 0, D.str ⟨#[]⟩, D.sl [], D.int 0, D.int 0, D.int 0, D.int 0], x]) (.step (fun n k => L65_5_s n k _ _ _ _ _ _) ?_)) ?_
      · simp only [h5, D.toInt]
        exact .neg (by simpa using h6) (.ret _ _)
      · exact .ret (PR.bad b e h4 h5 h6 h7)
    · simp only [List.getD_cons_zero]
      refine .bind (level_loop hT a lv ha (by omega) (fun b hb hb2 => hL b hb hb2 (lv + 1) (by omega) (by omega)) _ _ b t 0 (Nat.le_refl _) h4 h5 h6).diag ?_
      rintro _ ⟨d, y, rfl, hd⟩
      exact .ret ⟨d, rfl, hd⟩
theorem all_at (hT : Toks l) : ∀ (d a : Nat), l.length - a ≤ d → a < l.length → AllAt l a
  | 0, a, hd, ha => by omega
  | d + 1, a, hd, ha => by
    have ih : ∀ b, a < b → b < l.length → AllAt l b := fun b h1 h2 => all_at hT d b (by omega) h2
    have hU := un_ev hT a ha (fun b h1 h2 => (ih b h1 h2).ex) (fun b h1 h2 => (ih b h1 h2).un)
    have hL : ∀ lv, 1 ≤ lv → lv ≤ 6 → LevelAt l a lv := fun lv h1 h2 => level_ev hT a ha hU (fun b h1 h2 => (ih b h1 h2).lv) _ lv rfl h1 h2
    refine ⟨?_, hU, hL⟩
    refine .step (fun n => F60_eq n _ _) ?_
    refine .bind (hL 1 (Nat.le_refl _) (by decide)) ?_
    rintro _ ⟨d, rfl, hd⟩
    exact .ret ⟨d, rfl, hd⟩
theorem expr_ev (hT : Toks l) (a : Nat) (ha : a < l.length) : ExprAt l a := (all_at hT _ a (Nat.le_refl _) ha).ex
end Go.Proofs.Ytkimdfpmblhapaa.Va

/- The parser: statements. -/
set_option linter.unusedVariables false
set_option linter.unusedSimpArgs false
namespace Go.Proofs.Ytkimdfpmblhapaa.Va
inductive It where
  | word (s : ByteArray)
  | sign (s : ByteArray)
  | nm
  | ex
  | ty
  | bl
  | el
def It.w : It → ByteArray
  | .word _ => ⟨#[119, 111, 114, 100]⟩
  | .sign _ => ⟨#[115, 105, 103, 110]⟩
  | .nm => ⟨#[110, 97, 109, 101]⟩
  | .ex => ⟨#[101, 120, 112, 114]⟩
  | .ty => ⟨#[116, 121, 112, 101]⟩
  | .bl => ⟨#[98, 108, 111, 99, 107]⟩
  | .el => ⟨#[101, 108, 115, 101]⟩
def It.s : It → ByteArray
  | .word s => s
  | .sign s => s
  | _ => ⟨#[]⟩
def It.enc (x : It) : D := .agg [.str x.w, .str x.s]
/-- A statement. -/
inductive GS : T → Prop where
  | block (n f t : Int) (s : ByteArray) (l : List T) (h : ∀ x ∈ l, GS x) : GS (.mk 29 n s l f t)
  | leaf (k n f t : Int) (s : ByteArray) (l : List T) (hk : k = 20 ∨ k = 21 ∨ k = 22 ∨ k = 26 ∨ k = 27 ∨ k = 28) (h : ∀ x ∈ l, GE x) : GS (.mk k n s l f t)
  | ctl (k n f t : Int) (s : ByteArray) (l : List T) (hk : k = 23 ∨ k = 24) (h : ∀ x ∈ l, ¬ GE x → x.k = 29) (h2 : ∀ x ∈ l, x.k = 29 → GS x) : GS (.mk k n s l f t)
  | for_ (n f t : Int) (s : ByteArray) (a b c : T) (h1 : GE a) (h2 : GE b) (h3 : c.k = 29) (h4 : GS c) : GS (.mk 25 n s [a, b, c] f t)
theorem GEs_mem : ∀ {l : List T}, GEs l → ∀ x ∈ l, GE x
  | y :: r, h, x, hx => by
    rcases List.mem_cons.1 hx with hx | hx
    · subst hx; exact h.1
    · exact GEs_mem h.2 x hx
theorem GE_k {x : T} (h : GE x) : 1 ≤ x.k ∧ x.k ≤ 19 := by
  cases x
  exact ⟨h.1, h.2.1⟩
/-- A good statement between two places. -/
def QS (at_ : Nat) (t : T) (a : Nat) : Prop := GS t ∧ t.size ≤ 2 * (a - at_)
def QB (at_ : Nat) (t : T) (a : Nat) : Prop := (t.k = 29 ∧ GS t) ∧ t.size ≤ 2 * (a - at_)
def StmtAt (l : List Tk) (at_ : Nat) : Prop := EvP (fun n => F62 n (tokD l) (.int at_)) (PR l.length at_ (QS at_))
def BlockAt (l : List Tk) (at_ : Nat) : Prop := EvP (fun n => F49 n (tokD l) (.int at_)) (PR l.length at_ (QB at_))
/-- What a part of a statement is. -/
def It.good : It → T → Prop
  | .ex, t => GE t
  | .ty, t => GE t
  | .bl, t => t.k = 29 ∧ GS t
  | .el, t => t.k = 29 ∧ GS t
  | _, _ => False
def It.isTok : It → Bool
  | .word _ | .sign _ | .nm => true
  | _ => false
def Fits : List It → List T → Prop
  | [], ts => ts = []
  | i :: r, ts => if i.isTok = true then Fits r ts else match ts with
    | t :: ts => i.good t ∧ Fits r ts
    | [] => False
def slack : List It → Nat
  | [] => 0
  | i :: r => (if i.isTok = true then 2 else 0) + slack r
def elses : List It → Nat
  | [] => 0
  | .el :: r => 1 + elses r
  | _ :: r => elses r
def elN : It → Nat
  | .el => 1
  | _ => 0
theorem elses_cons (it : It) (r : List It) : elses (it :: r) = elN it + elses r := by cases it <;> simp [elses, elN]
theorem toL_sl (l : List D) : (D.sl l).toL = l := rfl
def headOk : List It → Bool
  | .bl :: _ | .el :: _ => false
  | _ => true
variable {l : List Tk}
theorem part_ev (hT : Toks l) (to : Nat) (hto : to < l.length) (it : It) (hi : it.isTok = false) (hB : it = .bl ∨ it = .el → BlockAt l to) :
    EvP (fun n => F68 n (tokD l) (.int to) (.str it.w)) (PR l.length to (fun t a => it.good t ∧ t.size ≤ 2 * (a - to))) := by
  have expr : EvP (fun n => (F60 n (tokD l) (.int to)).bind fun r1 => rt 0 [r1.2.getD 0 (D.int 0)]) (PR l.length to (QE to)) := by
    refine .bind (expr_ev hT to hto) ?_
    rintro _ ⟨d, rfl, hd⟩
    exact .ret ⟨d, rfl, hd⟩
  have type : EvP (fun n => (F46 n (tokD l) (.int to)).bind fun r1 => rt 0 [r1.2.getD 0 (D.int 0)]) (PR l.length to (QE to)) := by
    refine .bind (type_ev hT _ to (Nat.le_refl _) hto) ?_
    rintro _ ⟨d, rfl, hd⟩
    exact .ret ⟨d, rfl, hd⟩
  have block : BlockAt l to → EvP (fun n => (F49 n (tokD l) (.int to)).bind fun r1 => rt 0 [r1.2.getD 0 (D.int 0)]) (PR l.length to (QB to)) := fun h => by
    refine .bind h ?_
    rintro _ ⟨d, rfl, hd⟩
    exact .ret ⟨d, rfl, hd⟩
  refine .step (fun n => F68_eq n _ _ _) ?_
  simp only [D.toStr]
  cases it with
  | ex => exact .ite (fun _ => expr) (fun h => absurd (by decide) h)
  | ty => exact .ite (fun h => absurd h (by decide)) (fun _ => .ite (fun _ => type) (fun h => absurd (by decide) h))
  | bl => exact .ite (fun h => absurd h (by decide)) (fun _ => .ite (fun h => absurd h (by decide)) (fun _ => block (hB (.inl rfl))))
  | el => exact .ite (fun h => absurd h (by decide)) (fun _ => .ite (fun h => absurd h (by decide)) (fun _ => block (hB (.inr rfl))))
  | _ => cases hi
theorem fm (k : Nat) : True := trivial
/-- What the loop over a form comes to. -/
def FormR (l : List Tk) (form : List It) (to : Nat) (ts : List T) (y4 : D) (r : R) : Prop :=
  (∃ d, r = (1, [d]) ∧ ∀ Q, PG l.length 0 Q d) ∨ (∃ (to' : Nat) (name : ByteArray) (news : List T), r = (2, [.int to', .str name, .sl (encs (ts ++ news)), y4]) ∧ to ≤ to' ∧ to' < l.length ∧ Fits form news ∧ sizes news + slack form ≤ 2 * (to' - to) + elses form)
theorem FormR.bad {form : List It} {to : Nat} {ts : List T} {y4 d : D} (a : Nat) (e : Int) (h1 : d.cell 6 = .int a) (h2 : d.cell 7 = .int e) (h3 : e ≠ 0) (h4 : a < l.length) : FormR l form to ts y4 (1, [d]) :=
  .inl ⟨d, rfl, fun Q => PG.bad a e h1 h2 h3 h4⟩
/-- One more item, without a part. -/
theorem FormR.tok {it : It} {r : List It} {to : Nat} {ts : List T} {y4 : D} (hi : it.isTok = true) {x : R} (h : FormR l r (to + 1) ts y4 x) : FormR l (it :: r) to ts y4 x := by
  rcases h with h | ⟨to', name, news, h1, h2, h3, h4, h5⟩
  · exact .inl h
  · refine .inr ⟨to', name, news, h1, by omega, h3, by unfold Fits; rw [if_pos hi]; exact h4, ?_⟩
    have : elses (it :: r) = elses r := by cases it <;> first | rfl | cases hi
    unfold slack
    rw [if_pos hi, this]
    omega
/-- One more item, with a part. -/
theorem FormR.part {it : It} {r : List It} {to to1 : Nat} {ts : List T} {t : T} {y4 : D} (hi : it.isTok = false) (hg : it.good t) (h1 : to ≤ to1) (hs : t.size ≤ 2 * (to1 - to) + elN it) {x : R} (h : FormR l r to1 (ts ++ [t]) y4 x) : FormR l (it :: r) to ts y4 x := by
  rcases h with h | ⟨to', name, news, h2, h3, h4, h5, h6⟩
  · exact .inl h
  · refine .inr ⟨to', name, t :: news, by rw [h2, List.append_assoc]; rfl, by omega, h4, by unfold Fits; rw [if_neg (by simp [hi])]; exact ⟨hg, h5⟩, ?_⟩
    rw [elses_cons]
    unfold slack
    rw [if_neg (by simp [hi])]
    simp only [sizes]
    omega
theorem wrapS {a : Nat} (h : 0 < a) (h2 : a ≤ 100000) : IntKind.i64.wrap ((a : Int) - 1) = ((a - 1 : Nat) : Int) := by rw [wrap64_of (by omega) (by omega)]; omega
theorem form_loop (hT : Toks l) (at_ : Nat) (form : List It) (hf : form.length ≤ 20) (hB : ∀ b, at_ < b → b < l.length → BlockAt l b) (x1 x2 y4 : D) : ∀ (d i to : Nat) (name : ByteArray) (ts : List T), form.length - i = d → i ≤ form.length → at_ ≤ to → to < l.length → (at_ < to ∨ headOk (form.drop i) = true) → sizes ts ≤ 40000 + 40000 * i →
    EvP2 (fun n k => L62_8 n (tokD l) x1 x2 (.sl (form.map It.enc)) k [.int to, .str name, .sl (encs ts), .int i, y4]) (FormR l (form.drop i) to ts y4)
  | 0, i, to, name, ts, hd, hi, h0, hto, hh, hsz => by
    refine .step (fun n k => L62_8_s n k _ _ _ _ _ _ _ _ _) ?_
    simp only [D.toInt, toL_sl, List.length_map]
    refine .ite (fun h => ?_) (fun h => ?_)
    · simp at h; omega
    · refine .ret (.inr ⟨to, name, [], by rw [List.append_nil], Nat.le_refl _, hto, ?_, ?_⟩)
      · rw [List.drop_of_length_le (by omega)]; rfl
      · rw [List.drop_of_length_le (by omega)]; simp [sizes, slack]
  | d + 1, i, to, name, ts, hd, hi, h0, hto, hh, hsz => by
    have hs := hT.small
    have hlt : i < form.length := by omega
    have hdrop : form.drop i = form[i] :: form.drop (i + 1) := List.drop_eq_getElem_cons hlt
    have ih := form_loop hT at_ form hf hB x1 x2 y4 d (i + 1)
    have hget : (form.map It.enc).getD ((i : Int).toNat) (.int 0) = (form[i]).enc := by simp [hlt]
    rw [hdrop] at hh ⊢
    generalize form[i] = it at hh hget hdrop ⊢
    refine .step (fun n k => L62_8_s n k _ _ _ _ _ _ _ _ _) ?_
    simp only [D.toInt, toL_sl, List.length_map, hget]
    rw [wrap1 (by omega), wrap1 (by omega)]
    refine .ite (fun _ => ?_) (fun h => absurd (by simpa using hlt) h)
    refine .ite (fun _ => ?_) (fun h => absurd (inR_nat hlt) h)
    have hlen := length_le_sizes ts
    have happ : ∀ t : T, encs ts ++ [t.enc] = encs (ts ++ [t]) := fun t => by rw [encs_append]; rfl
    -- a part, when it is read
    have part : ∀ to1, it.isTok = false → to ≤ to1 → to1 < l.length → at_ < to1 ∨ (it ≠ .bl ∧ it ≠ .el) → at_ ≤ to1 → EvP2 (fun n k => (F68 n (tokD l) (.int ((to1 : Nat) : Int)) (it.enc.cell 0)).bind fun r12 => if ((((r12.2.getD 0 (D.int 0)).cell 7).toInt) != (0 : Int)) = true then (rt 1 [(r12.2.getD 0 (D.int 0))]) else
        (if (decide ((encs ts).length + ([D.agg [((r12.2.getD 0 (D.int 0)).cell 0), ((r12.2.getD 0 (D.int 0)).cell 1), ((r12.2.getD 0 (D.int 0)).cell 2), ((r12.2.getD 0 (D.int 0)).cell 3), ((r12.2.getD 0 (D.int 0)).cell 4), ((r12.2.getD 0 (D.int 0)).cell 5)]] : List D).length ≤ 34359738368)) = true then
          (L62_8 n (tokD l) x1 x2 (D.sl (form.map It.enc)) k [((r12.2.getD 0 (D.int 0)).cell 6), .str name, D.sl (encs ts ++ ([D.agg [((r12.2.getD 0 (D.int 0)).cell 0), ((r12.2.getD 0 (D.int 0)).cell 1), ((r12.2.getD 0 (D.int 0)).cell 2), ((r12.2.getD 0 (D.int 0)).cell 3), ((r12.2.getD 0 (D.int 0)).cell 4), ((r12.2.getD 0 (D.int 0)).cell 5)]] : List D)), .int ((i + 1 : Nat) : Int), y4]) else none)) (FormR l (it :: form.drop (i + 1)) to ts y4) := fun to1 hi1 h1 h2 h3 h4 => by
      refine PR.split2 (part_ev hT to1 h2 it hi1 (fun h5 => ?_)) (fun x b e h5 h6 h7 h8 => ?_) (fun t b h5 h6 h7 => ?_)
      · refine hB to1 (h3.resolve_right (fun h6 => ?_)) h2
        rcases h5 with h5 | h5
        · exact h6.1 h5
        · exact h6.2 h5
      · simp only [List.getD_cons_zero, h6, D.toInt]
        exact .ite (fun _ => .ret (FormR.bad b e h5 h6 h7 h8)) (fun h => absurd h7 (by simpa using h))
      · simp only [List.getD_cons_zero, okD_T, okD_7, okD_6, D.toInt]
        refine .ite (fun h => absurd h (by decide)) (fun _ => ?_)
        refine .ite (fun _ => ?_) (fun h => absurd (by simp [encs_length]; omega) h)
        rw [happ]
        have hts := h7.2
        refine (ih b name (ts ++ [t]) (by omega) (by omega) (by omega) h6 (.inl (by omega)) (by rw [sizes_append]; simp only [sizes]; omega)).mono fun r hr => ?_
        exact FormR.part hi1 h7.1 (by omega) (by omega) hr
    cases it with
    | word s =>
      refine .bindE (r1 := (0, [.bool true])) (.neg (by show ¬ decide (It.w (.word ⟨#[]⟩) = ⟨#[119, 111, 114, 100]⟩) = false; decide) (.ret _ _)) ?_
      simp only [List.getD_cons_zero, D.toBool]
      refine .ite (fun _ => ?_) (fun h => absurd trivial h)
      refine .bindE (r1 := (0, [.bool (!isWord l to s)])) ?_ ?_
      · refine .pos (by show decide (It.w (.word ⟨#[]⟩) = ⟨#[119, 111, 114, 100]⟩) = true; decide) (.pos (inR_nat hlt) ?_)
        refine .bind (word_ev l to s) ?_
        simp only [List.getD_cons_zero, D.toBool]
        cases hw : isWord l to s with
        | true => exact .pos (by simp) (.neg (by show ¬ decide (It.w (.word ⟨#[]⟩) = ⟨#[115, 105, 103, 110]⟩) = true; decide) (.ret _ _))
        | false => exact .neg (by simp) (.ret _ _)
      simp only [List.getD_cons_zero, D.toBool]
      refine .ite (fun h => ?_) (fun h => ?_)
      · refine .bindE (bad_ev _) ?_
        exact .ret (FormR.bad to 6 rfl rfl (by decide) hto)
      · have h1 := hT.word (a := to) (s := s) (by simpa using h)
        exact (ih (to + 1) name ts (by omega) (by omega) (by omega) h1 (.inl (by omega)) (by omega)).mono fun r hr => FormR.tok rfl hr
    | sign s =>
      refine .bindE (r1 := (0, [.bool true])) (.pos (by show decide (It.w (.sign ⟨#[]⟩) = ⟨#[119, 111, 114, 100]⟩) = false; decide) (.ret _ _)) ?_
      simp only [List.getD_cons_zero, D.toBool]
      refine .ite (fun _ => ?_) (fun h => absurd trivial h)
      refine .bindE (r1 := (0, [.bool (!isSign l to s)])) ?_ ?_
      · refine .neg (by show ¬ decide (It.w (.sign ⟨#[]⟩) = ⟨#[119, 111, 114, 100]⟩) = true; decide) (.pos (by show decide (It.w (.sign ⟨#[]⟩) = ⟨#[115, 105, 103, 110]⟩) = true; decide) (.pos (inR_nat hlt) ?_))
        refine .bind (sign_ev l to s) ?_
        exact .ret _ _
      simp only [List.getD_cons_zero, D.toBool]
      refine .ite (fun h => ?_) (fun h => ?_)
      · refine .bindE (bad_ev _) ?_
        exact .ret (FormR.bad to 6 rfl rfl (by decide) hto)
      · have h1 := hT.sign (a := to) (s := s) (by simpa using h)
        exact (ih (to + 1) name ts (by omega) (by omega) (by omega) h1 (.inl (by omega)) (by omega)).mono fun r hr => FormR.tok rfl hr
    | nm =>
      refine .bindE (r1 := (0, [.bool false])) (.pos (by decide) (.ret _ _)) ?_
      simp only [List.getD_cons_zero, D.toBool]
      refine .ite (fun h => by cases h) (fun _ => ?_)
      refine .ite (fun _ => ?_) (fun h => absurd (by decide) h)
      refine .bindE (now_ev l to) ?_
      simp only [List.getD_cons_zero, tk_cell0, D.toInt]
      refine .ite (fun h => ?_) (fun h => ?_)
      · refine .bindE (bad_ev _) ?_
        exact .ret (FormR.bad to 6 rfl rfl (by decide) hto)
      · have h1 := hT.lt (a := to) (by simp at h; rw [h]; decide)
        simp only [tokD_len]
        refine .ite (fun _ => ?_) (fun h => absurd (inR_nat hto) h)
        rw [show ((to : Int).toNat) = to by omega, tokD_get l hto, tk_cell2]
        exact (ih (to + 1) _ ts (by omega) (by omega) (by omega) h1 (.inl (by omega)) (by omega)).mono fun r hr => FormR.tok rfl hr
    | ex =>
      refine .bindE (r1 := (0, [.bool false])) (.pos (by decide) (.ret _ _)) ?_
      simp only [List.getD_cons_zero, D.toBool]
      refine .ite (fun h => by cases h) (fun _ => ?_)
      refine .ite (fun h => absurd h (by decide)) (fun _ => ?_)
      refine .bindE (r1 := (0, [.bool false])) (.neg (by decide) (.ret _ _)) ?_
      simp only [List.getD_cons_zero, D.toBool]
      refine .ite (fun h => by cases h) (fun _ => ?_)
      refine .bindE (r1 := (0, [.int to])) (.neg (by decide) (.ret _ _)) ?_
      exact part to rfl (Nat.le_refl _) hto (.inr ⟨by simp, by simp⟩) h0
    | ty =>
      refine .bindE (r1 := (0, [.bool false])) (.pos (by decide) (.ret _ _)) ?_
      simp only [List.getD_cons_zero, D.toBool]
      refine .ite (fun h => by cases h) (fun _ => ?_)
      refine .ite (fun h => absurd h (by decide)) (fun _ => ?_)
      refine .bindE (r1 := (0, [.bool false])) (.neg (by decide) (.ret _ _)) ?_
      simp only [List.getD_cons_zero, D.toBool]
      refine .ite (fun h => by cases h) (fun _ => ?_)
      refine .bindE (r1 := (0, [.int to])) (.neg (by decide) (.ret _ _)) ?_
      exact part to rfl (Nat.le_refl _) hto (.inr ⟨by simp, by simp⟩) h0
    | bl =>
      have hat : at_ < to := hh.resolve_right (by simp [headOk])
      refine .bindE (r1 := (0, [.bool false])) (.pos (by decide) (.ret _ _)) ?_
      simp only [List.getD_cons_zero, D.toBool]
      refine .ite (fun h => by cases h) (fun _ => ?_)
      refine .ite (fun h => absurd h (by decide)) (fun _ => ?_)
      refine .bindE (r1 := (0, [.bool false])) (.neg (by decide) (.ret _ _)) ?_
      simp only [List.getD_cons_zero, D.toBool]
      refine .ite (fun h => by cases h) (fun _ => ?_)
      refine .bindE (r1 := (0, [.int to])) (.neg (by decide) (.ret _ _)) ?_
      exact part to rfl (Nat.le_refl _) hto (.inl hat) h0
    | el =>
      have hat : at_ < to := hh.resolve_right (by simp [headOk])
      refine .bindE (r1 := (0, [.bool false])) (.pos (by decide) (.ret _ _)) ?_
      simp only [List.getD_cons_zero, D.toBool]
      refine .ite (fun h => by cases h) (fun _ => ?_)
      refine .ite (fun h => absurd h (by decide)) (fun _ => ?_)
      refine .bindE (r1 := (0, [.bool (!isWord l to ⟨#[101, 108, 115, 101]⟩)])) (.pos (by decide) (.bind (word_ev l to _) (.ret _ _))) ?_
      simp only [List.getD_cons_zero, D.toBool]
      refine .ite (fun h => ?_) (fun h => ?_)
      · simp only [tokD_len, wrapS (show 0 < to by omega) (show to ≤ 100000 by omega)]
        refine .ite (fun _ => ?_) (fun h => absurd (inR_nat (by omega)) h)
        refine .ite (fun _ => ?_) (fun h => absurd (by simp [encs_length]; omega) h)
        rw [show (((to - 1 : Nat) : Int).toNat) = to - 1 by omega, tokD_get l (show to - 1 < l.length by omega), tk_cell4]
        have hts : T.size (T.mk 29 0 ⟨#[]⟩ [] (now l (to - 1)).t (now l (to - 1)).t) = 1 := rfl
        have he : (D.agg [D.int 29, D.int 0, D.str ⟨#[]⟩, D.sl [], D.int (now l (to - 1)).t, D.int (now l (to - 1)).t]) = (T.mk 29 0 ⟨#[]⟩ [] (now l (to - 1)).t (now l (to - 1)).t).enc := rfl
        rw [he, happ]
        refine (ih to name _ (by omega) (by omega) h0 hto (.inl hat) (by rw [sizes_append]; simp only [sizes, hts]; omega)).mono fun r hr => ?_
        exact FormR.part (it := .el) rfl ⟨rfl, .block _ _ _ _ _ (fun x hx => by cases hx)⟩ (Nat.le_refl _) (by rw [hts]; simp only [elN]; omega) hr
      · have h1 := hT.word (a := to) (s := ⟨#[101, 108, 115, 101]⟩) (by simpa using h)
        refine .bindE (r1 := (0, [.int ((to + 1 : Nat) : Int)])) (.pos (by decide) (.ret _ _)) ?_
        exact part (to + 1) rfl (by omega) h1 (.inl (by omega)) (by omega)
end Go.Proofs.Ytkimdfpmblhapaa.Va

/- The parser: statements and blocks. -/
set_option linter.unusedVariables false
set_option linter.unusedSimpArgs false
namespace Go.Proofs.Ytkimdfpmblhapaa.Va
variable {l : List Tk}
structure FormOk (k : Int) (form : List It) : Prop where
  len : form.length ≤ 20
  head : headOk form = true
  sl : 2 ≤ slack form
  el : elses form ≤ 1
  gs : ∀ ts, Fits form ts → ∀ n s f t, GS (.mk k n s ts f t)
theorem fits1 {i : It} {ts : List T} (hi : i.isTok = false) {r : List It} (h : Fits (i :: r) ts) : ∃ t ts', ts = t :: ts' ∧ i.good t ∧ Fits r ts' := by
  unfold Fits at h
  rw [if_neg (by simp [hi])] at h
  cases ts with
  | nil => exact h.elim
  | cons t ts' => exact ⟨t, ts', rfl, h.1, h.2⟩
theorem fitsT {i : It} {ts : List T} (hi : i.isTok = true) {r : List It} (h : Fits (i :: r) ts) : Fits r ts := by
  unfold Fits at h
  rwa [if_pos hi] at h
theorem form_leaf1 {k : Int} (hk : k = 20 ∨ k = 21 ∨ k = 22 ∨ k = 26 ∨ k = 27 ∨ k = 28) {pre post : List It} {i : It} (hpre : ∀ x ∈ pre, x.isTok = true) (hpost : ∀ x ∈ post, x.isTok = true) (hi : i = .ex ∨ i = .ty) :
    ∀ ts, Fits (pre ++ i :: post) ts → ∀ n s f t, GS (.mk k n s ts f t) := by
  have toks : ∀ (p q : List It) (ts : List T), (∀ x ∈ p, x.isTok = true) → Fits (p ++ q) ts → Fits q ts := by
    intro p
    induction p with
    | nil => exact fun q ts _ h => h
    | cons x r ih => exact fun q ts hp h => ih q ts (fun y hy => hp y (List.mem_cons_of_mem _ hy)) (fitsT (hp x List.mem_cons_self) h)
  intro ts h n s f t
  have h := toks pre _ ts hpre h
  have hi2 : i.isTok = false := by rcases hi with rfl | rfl <;> rfl
  obtain ⟨x, ts', rfl, h1, h2⟩ := fits1 hi2 h
  have h3 := toks post [] ts' hpost (by rwa [List.append_nil])
  have h3 : ts' = [] := h3
  subst h3
  refine .leaf k n f t s [x] hk fun y hy => ?_
  rw [List.mem_singleton] at hy
  subst hy
  rcases hi with rfl | rfl <;> exact h1
theorem form_ev (hT : Toks l) (a : Nat) (ha : a < l.length) : EvP (fun n => F67 n (tokD l) (.int a)) (fun r => ∃ k form, r = (0, [.int k, .sl (form.map It.enc)]) ∧ FormOk k form) := by
  have hs := hT.small
  have ret : ∀ (k : Int) (form : List It) (x : D), x = .sl (form.map It.enc) → FormOk k form → EvP (fun _ => rt 0 [.int k, x]) (fun r => ∃ k form, r = (0, [.int k, .sl (form.map It.enc)]) ∧ FormOk k form) := fun k form x hx hf => .ret ⟨k, form, by rw [hx], hf⟩
  refine .step (fun n => F67_eq n _ _) ?_
  refine .bindE (word_ev l a _) ?_
  simp only [List.getD_cons_zero, D.toBool, D.toInt]
  rw [wrap1 (by omega), wrap2 (by omega)]
  refine .ite (fun h => ?_) (fun h => ?_)
  · refine .bind (Q1 := fun r => ∃ b, r = (0, [.bool b])) ?_ ?_
    · refine .bindE (now_ev l (a + 1)) ?_
      refine .ite (fun h => ?_) (fun h => .ret ⟨_, rfl⟩)
      exact .bindE (sign_ev l (a + 2) _) (.ret ⟨_, rfl⟩)
    rintro _ ⟨b, rfl⟩
    refine .ite (fun h => ?_) (fun h => ?_)
    · exact ret 21 [.word ⟨#[108, 101, 116]⟩, .nm, .sign ⟨#[58]⟩, .ty, .sign ⟨#[59]⟩] _ rfl ⟨by decide, rfl, by decide, by decide, form_leaf1 (pre := [.word ⟨#[108, 101, 116]⟩, .nm, .sign ⟨#[58]⟩]) (post := [.sign ⟨#[59]⟩]) (by simp) (by simp [It.isTok]) (by simp [It.isTok]) (.inr rfl)⟩
    · exact ret 20 [.word ⟨#[108, 101, 116]⟩, .nm, .sign ⟨#[61]⟩, .ex, .sign ⟨#[59]⟩] _ rfl ⟨by decide, rfl, by decide, by decide, form_leaf1 (pre := [.word ⟨#[108, 101, 116]⟩, .nm, .sign ⟨#[61]⟩]) (post := [.sign ⟨#[59]⟩]) (by simp) (by simp [It.isTok]) (by simp [It.isTok]) (.inl rfl)⟩
  have blk : ∀ {x : T}, GE x → ¬ x.k = 29 := fun h hk => by have := (GE_k h).2; omega
  refine .bindE (word_ev l a _) ?_
  simp only [List.getD_cons_zero, D.toBool]
  refine .ite (fun h => ?_) (fun h => ?_)
  · refine ret 23 [.word ⟨#[105, 102]⟩, .ex, .bl, .el] _ rfl ⟨by decide, rfl, by decide, by decide, fun ts h n s f t => ?_⟩
    obtain ⟨e, ts1, rfl, h1, h2⟩ := fits1 rfl (fitsT rfl h)
    obtain ⟨b, ts2, rfl, h3, h4⟩ := fits1 rfl h2
    obtain ⟨c, ts3, rfl, h5, h6⟩ := fits1 rfl h4
    have h6 : ts3 = [] := h6
    subst h6
    refine .ctl 23 n f t s _ (.inl rfl) (fun x hx hg => ?_) (fun x hx hg => ?_) <;> simp only [List.mem_cons, List.not_mem_nil, or_false] at hx <;> rcases hx with rfl | rfl | rfl
    · exact absurd h1 hg
    · exact h3.1
    · exact h5.1
    · exact absurd hg (blk h1)
    · exact h3.2
    · exact h5.2
  refine .bindE (word_ev l a _) ?_
  simp only [List.getD_cons_zero, D.toBool]
  refine .ite (fun h => ?_) (fun h => ?_)
  · refine ret 24 [.word ⟨#[119, 104, 105, 108, 101]⟩, .ex, .bl] _ rfl ⟨by decide, rfl, by decide, by decide, fun ts h n s f t => ?_⟩
    obtain ⟨e, ts1, rfl, h1, h2⟩ := fits1 rfl (fitsT rfl h)
    obtain ⟨b, ts2, rfl, h3, h4⟩ := fits1 rfl h2
    have h4 : ts2 = [] := h4
    subst h4
    refine .ctl 24 n f t s _ (.inr rfl) (fun x hx hg => ?_) (fun x hx hg => ?_) <;> simp only [List.mem_cons, List.not_mem_nil, or_false] at hx <;> rcases hx with rfl | rfl
    · exact absurd h1 hg
    · exact h3.1
    · exact absurd hg (blk h1)
    · exact h3.2
  refine .bindE (word_ev l a _) ?_
  simp only [List.getD_cons_zero, D.toBool]
  refine .ite (fun h => ?_) (fun h => ?_)
  · refine ret 25 [.word ⟨#[102, 111, 114]⟩, .nm, .sign ⟨#[61]⟩, .ex, .word ⟨#[116, 111]⟩, .ex, .bl] _ rfl ⟨by decide, rfl, by decide, by decide, fun ts h n s f t => ?_⟩
    obtain ⟨e, ts1, rfl, h1, h2⟩ := fits1 rfl (fitsT rfl (fitsT rfl (fitsT rfl h)))
    obtain ⟨b, ts2, rfl, h3, h4⟩ := fits1 rfl (fitsT rfl h2)
    obtain ⟨c, ts3, rfl, h5, h6⟩ := fits1 rfl h4
    have h6 : ts3 = [] := h6
    subst h6
    exact .for_ n f t s e b c h1 h3 h5.1 h5.2
  refine .bindE (word_ev l a _) ?_
  simp only [List.getD_cons_zero, D.toBool]
  refine .ite (fun h => ?_) (fun h => ?_)
  · exact ret 26 [.word ⟨#[112, 114, 105, 110, 116]⟩, .ex, .sign ⟨#[59]⟩] _ rfl ⟨by decide, rfl, by decide, by decide, form_leaf1 (pre := [.word ⟨#[112, 114, 105, 110, 116]⟩]) (post := [.sign ⟨#[59]⟩]) (by simp) (by simp [It.isTok]) (by simp [It.isTok]) (.inl rfl)⟩
  refine .bindE (word_ev l a _) ?_
  simp only [List.getD_cons_zero, D.toBool]
  refine .ite (fun h => ?_) (fun h => ?_)
  · exact ret 27 [.word ⟨#[114, 101, 116, 117, 114, 110]⟩, .ex, .sign ⟨#[59]⟩] _ rfl ⟨by decide, rfl, by decide, by decide, form_leaf1 (pre := [.word ⟨#[114, 101, 116, 117, 114, 110]⟩]) (post := [.sign ⟨#[59]⟩]) (by simp) (by simp [It.isTok]) (by simp [It.isTok]) (.inl rfl)⟩
  refine .bindE (word_ev l a _) ?_
  simp only [List.getD_cons_zero, D.toBool]
  refine .ite (fun h => ?_) (fun h => ?_)
  · exact ret 28 [.word ⟨#[100, 111]⟩, .ex, .sign ⟨#[59]⟩] _ rfl ⟨by decide, rfl, by decide, by decide, form_leaf1 (pre := [.word ⟨#[100, 111]⟩]) (post := [.sign ⟨#[59]⟩]) (by simp) (by simp [It.isTok]) (by simp [It.isTok]) (.inl rfl)⟩
  · refine ret 22 [.ex, .sign ⟨#[61]⟩, .ex, .sign ⟨#[59]⟩] _ rfl ⟨by decide, rfl, by decide, by decide, fun ts h n s f t => ?_⟩
    obtain ⟨e, ts1, rfl, h1, h2⟩ := fits1 rfl h
    obtain ⟨b, ts2, rfl, h3, h4⟩ := fits1 rfl (fitsT rfl h2)
    have h4 : ts2 = [] := fitsT rfl h4
    subst h4
    refine .leaf 22 n f t s _ (.inr (.inr (.inl rfl))) fun x hx => ?_
    simp only [List.mem_cons, List.not_mem_nil, or_false] at hx
    rcases hx with rfl | rfl
    · exact h1
    · exact h3
theorem PG.weak {N a : Nat} {Q Q' : T → Nat → Prop} {d : D} (h : PG N a Q d) (hb : ∀ t b, a < b → b < N → Q t b → Q' t b) : PG N a Q' d := by
  rcases h with h | ⟨t, b, h1, h2, h3, h4⟩
  · exact .inl h
  · exact .inr ⟨t, b, h1, h2, h3, hb t b h2 h3 h4⟩
theorem stmt_ev (hT : Toks l) (a : Nat) (ha : a < l.length) (hB : BlockAt l a) (hB2 : ∀ b, a < b → b < l.length → BlockAt l b) : StmtAt l a := by
  have hs := hT.small
  refine .step (fun n => F62_eq n _ _) ?_
  refine .bindE (sign_ev l a _) ?_
  simp only [List.getD_cons_zero, D.toBool]
  refine .ite (fun h => ?_) (fun h => ?_)
  · refine .bind hB ?_
    rintro _ ⟨d, rfl, hd⟩
    exact .ret ⟨d, rfl, hd.weak fun t b _ _ h => ⟨h.1.2, h.2⟩⟩
  refine .bind (form_ev hT a ha) ?_
  rintro _ ⟨k, form, rfl, hf⟩
  simp only [List.getD_cons_zero, List.getD_cons_succ]
  refine .bind (form_loop hT a form hf.len hB2 _ _ _ form.length 0 a _ [] rfl (Nat.zero_le _) (Nat.le_refl _) ha (.inr (by simpa using hf.head)) (Nat.zero_le _)).diag ?_
  rintro _ (⟨d, rfl, hd⟩ | ⟨to, name, ts, rfl, h1, h2, h3, h4⟩)
  · have := hd (QS a)
    rcases this with ⟨b, e, h5, h6, h7, h8⟩ | ⟨t, b, h5, h6, h7, h8⟩
    · exact .ret (PR.bad b e h5 h6 h7 h8)
    · have := hd (fun _ _ => False)
      rcases this with ⟨b, e, h5, h6, h7, h8⟩ | ⟨t, b, h5, h6, h7, h8⟩
      · exact .ret (PR.bad b e h5 h6 h7 h8)
      · exact h8.elim
  · simp only [List.getD_cons_zero, List.getD_cons_succ, List.nil_append]
    rw [List.drop_zero] at h3 h4
    have h5 := hf.sl
    have h6 := hf.el
    refine .ite (fun h => absurd h (by decide)) (fun _ => .ite (fun _ => ?_) (fun h => absurd trivial h))
    exact ret_make hT a to ha (by omega) h2 k 0 name ts fun f t => ⟨hf.gs ts h3 _ _ _ _, by rw [size_mk]; omega⟩
theorem block_loop (hT : Toks l) (a : Nat) (y2 : D) (hS : ∀ b, a < b → b < l.length → StmtAt l b) : ∀ (d c : Nat) (ts : List T), l.length - c ≤ d → a < c → c < l.length → (∀ x ∈ ts, GS x) → sizes ts ≤ 2 * (c - a - 1) →
    EvP2 (fun n k => L49_5 n (tokD l) (.int a) k [.sl (encs ts), .int c, y2]) (fun r => (∃ d, r = (1, [d]) ∧ ∃ (b : Nat) (e : Int), d.cell 6 = .int b ∧ d.cell 7 = .int e ∧ e ≠ 0 ∧ b < l.length) ∨
      ∃ ts c, r = (2, [.sl (encs ts), .int ((c : Nat) : Int), y2]) ∧ a < c ∧ c + 1 < l.length ∧ (∀ x ∈ ts, GS x) ∧ sizes ts ≤ 2 * (c - a - 1))
  | 0, c, ts, hd, h0, hc, hG, hz => by omega
  | d + 1, c, ts, hd, h0, hc, hG, hz => by
    have hs := hT.small
    refine .step (fun n k => L49_5_s n k _ _ _ _ _) ?_
    refine .bindE (sign_ev l c _) ?_
    simp only [List.getD_cons_zero, D.toBool, toL_sl]
    refine .ite (fun h => ?_) (fun h => ?_)
    · refine PR.split2 (hS c h0 hc) (fun x b e h4 h5 h6 h7 => ?_) (fun t b h4 h5 h6 => ?_)
      · simp only [List.getD_cons_zero, h5, D.toInt]
        exact .ite (fun _ => .ret (.inl ⟨x, rfl, b, e, h4, h5, h6, h7⟩)) (fun h => absurd h6 (by simpa using h))
      · simp only [List.getD_cons_zero, okD_T, okD_7, okD_6, D.toInt]
        refine .ite (fun h => absurd h (by decide)) (fun _ => ?_)
        have hlen := length_le_sizes ts
        refine .ite (fun _ => ?_) (fun h => absurd (by simp [encs_length]; omega) h)
        have happ : encs ts ++ [t.enc] = encs (ts ++ [t]) := by rw [encs_append]; rfl
        rw [happ]
        have := h6.2
        exact block_loop hT a y2 hS d b (ts ++ [t]) (by omega) (by omega) h5 (fun x hx => by
          rcases List.mem_append.1 hx with hx | hx
          · exact hG x hx
          · rw [List.mem_singleton] at hx; subst hx; exact h6.1) (by rw [sizes_append]; simp only [sizes]; omega)
    · have h1 := hT.sign (a := c) (s := ⟨#[125]⟩) (by simpa using h)
      exact .ret (.inr ⟨ts, c, rfl, h0, h1, hG, hz⟩)
theorem block_ev (hT : Toks l) (a : Nat) (ha : a < l.length) (hS : ∀ b, a < b → b < l.length → StmtAt l b) : BlockAt l a := by
  have hs := hT.small
  refine .step (fun n => F49_eq n _ _) ?_
  refine .bindE (sign_ev l a _) ?_
  simp only [List.getD_cons_zero, D.toBool, D.toInt]
  rw [wrap1 (by omega)]
  refine .ite (fun _ => ret_bad a ha) (fun h => ?_)
  have h1 := hT.sign (a := a) (s := ⟨#[123]⟩) (by simpa using h)
  refine .bind (block_loop hT a _ hS _ (a + 1) [] (Nat.le_refl _) (by omega) h1 (fun x hx => by cases hx) (Nat.zero_le _)).diag ?_
  rintro _ (⟨d, rfl, b, e, h2, h3, h4, h5⟩ | ⟨ts, c, rfl, h2, h3, h4, h5⟩)
  · exact .ret (PR.bad b e h2 h3 h4 h5)
  · simp only [List.getD_cons_zero, List.getD_cons_succ]
    rw [wrap1 (by omega)]
    refine .ite (fun h => absurd h (by decide)) (fun _ => .ite (fun _ => ?_) (fun h => absurd trivial h))
    exact ret_make hT a (c + 1) ha (by omega) (by omega) 29 0 _ ts fun f t => ⟨⟨rfl, .block _ _ _ _ _ h4⟩, by rw [size_mk]; omega⟩
theorem stmts_at (hT : Toks l) : ∀ (d a : Nat), l.length - a ≤ d → a < l.length → BlockAt l a ∧ StmtAt l a
  | 0, a, hd, ha => by omega
  | d + 1, a, hd, ha => by
    have ih : ∀ b, a < b → b < l.length → BlockAt l b ∧ StmtAt l b := fun b h1 h2 => stmts_at hT d b (by omega) h2
    have hB := block_ev hT a ha (fun b h1 h2 => (ih b h1 h2).2)
    exact ⟨hB, stmt_ev hT a ha hB (fun b h1 h2 => (ih b h1 h2).1)⟩
theorem blocks_ev (hT : Toks l) (a : Nat) (ha : a < l.length) : BlockAt l a := (stmts_at hT _ a (Nat.le_refl _) ha).1
end Go.Proofs.Ytkimdfpmblhapaa.Va
