/- The abstract interpreter over the loaded code, and parts of the proof that what it computes is what the call comes to. No condition beyond those that each theorem states. -/
import Derived.Tactics
import Derived.Orders
import Derived.Below
import Derived.KernelRfl
import Derived.Laws.Sem
import Derived.Laws.Cells
import Derived.Laws.IdiomCopy
import Derived.Laws.AppendOwn
import Derived.Maps.AppendAt
import Derived.Laws.Slices
import Derived.WalkKit
set_option linter.unusedVariables false
set_option linter.unusedSimpArgs false
set_option linter.constructorNameAsVariable false
/- An interpreter of the model's code on plain data: what it is. -/
namespace Go.Proofs.Ytkimdfpmblhapaa.Va
open Go.RowKit

/-- Plain data. -/
inductive D where
  | int (n : Int)
  | bool (b : Bool)
  | str (s : ByteArray)
  | sl (l : List D)
  | agg (l : List D)
instance : Inhabited D := ⟨.int 0⟩
def D.toInt : D → Int | .int n => n | _ => 0
def D.toBool : D → Bool | .bool b => b | _ => false
def D.toStr : D → ByteArray | .str s => s | _ => ByteArray.empty
def D.toL : D → List D | .sl l => l | _ => []
def D.cell (d : D) (j : Nat) : D := match d with | .agg l => l.getD j (.int 0) | d => d
def D.subL (d : D) (off : Nat) : Nat → List D
  | 0 => []
  | n + 1 => d.cell off :: D.subL d (off + 1) n

/-- What one cell holds; x: an address, a map, a function. -/
inductive LK where
  | int (k : IntKind)
  | bool
  | str
  | sl (e : TypeId)
  | x
  deriving DecidableEq
/-- The shape of a type: is it a struct or an array, and its cells' kinds. -/
structure Sh where
  agg : Bool
  ks : List LK
  deriving DecidableEq
def Sh.at (s : Sh) (d : D) (j : Nat) : D := if s.agg then d.cell j else d

def kindsF (f : TypeId → Option (List LK)) : List Field → Option (List LK)
  | [] => some []
  | x :: r => match f x.type, kindsF f r with
    | some a, some b => some (a ++ b)
    | _, _ => none
def repL (l : List LK) : Nat → List LK
  | 0 => []
  | n + 1 => l ++ repL l n
def kinds (P : Program) : Nat → TypeId → Option (List LK)
  | 0, _ => none
  | n + 1, t => match P.underlying t with
    | some (.int k) => some [.int k]
    | some .bool => some [.bool]
    | some .string => some [.str]
    | some (.slice e) => some [.sl e]
    | some (.pointer _) | some (.map _ _) | some (.func _ _ _) => some [.x]
    | some (.struct fs) => kindsF (kinds P n) fs.toList
    | some (.array m e) => match kinds P n e with
      | some l => some (repL l m)
      | none => none
    | _ => none
def aggT (P : Program) (t : TypeId) : Bool := match P.underlying t with
  | some (.struct _) | some (.array _ _) => true
  | _ => false
def sizeT (P : Program) (t : TypeId) : Option Nat := match P.info? t with
  | some i => some i.size
  | none => none
def sh (P : Program) (t : TypeId) : Option Sh := match kinds P 12 t with
  | some ks => if sizeT P t = some ks.length && (aggT P t || ks.length == 1) then some ⟨aggT P t, ks⟩ else none
  | none => none
def Sh.plain (s : Sh) : Bool := !s.ks.contains .x
/-- Of plain data alone. -/
def shp (P : Program) (t : TypeId) : Option Sh := match sh P t with
  | some s => if s.plain then some s else none
  | none => none

/-- Addresses, maps, functions: by the numbers of variables. -/
inductive XV where
  | nil
  | ptr (n off : Nat)
  | mp (n : Nat)
  | fn (f : FuncId) (first cap : List XV)
/-- May a slice be appended to: no; it is nil; it is full; it owns what is behind its end (own), or all of its row (arr), by a mark. x: no data. -/
inductive Ap where
  | ro
  | nl
  | full
  | own (m : Nat)
  | arr (m : Nat)
  | dead
  | x (v : XV)
/-- What a slot holds. -/
inductive AV where
  | undef
  | no
  | nilsl
  | dt (s : Sh) (d : D) (aps : List Ap)
  | ip (s : Sh) (d : D) (off : Nat)
  | ep (m : Nat) (s : Sh) (d : D) (off : Nat)
  | tup (l : List AV)
instance : Inhabited AV := ⟨.undef⟩
/-- A variable in memory; a map. -/
inductive Ob where
  | cells (s : Sh) (d : D) (aps : List Ap)
  | map (k v : TypeId) (d : D)
/-- Slots; variables: first those that came, then by the slots of their making; marks likewise (true: alive); what is not to be written. -/
structure St where
  nb : Nat
  tb : Nat
  fr : List AV
  hp : List (Option Ob)
  tk : List (Option Bool)
  prot : List Nat
  protM : List Nat
  protS : List Nat
  protT : List Nat

def xsh : Sh := ⟨false, [.x]⟩
def xv (v : XV) : AV := .dt xsh (.int 0) [.x v]
def sc (k : LK) (d : D) : AV := .dt ⟨false, [k]⟩ d [.ro]
def ofConst : Value → AV
  | .int k n => sc (.int k) (.int n)
  | .bool b => sc .bool (.bool b)
  | .string s => sc .str (.str s)
  | .slice none 0 0 => .nilsl
  | .pointer none => xv .nil
  | .map none => xv .nil
  | .nilFunc => xv .nil
  | .func (.func f) ⟨[]⟩ ⟨[]⟩ => xv (.fn f [] [])
  | _ => .undef
def St.ev (st : St) : Operand → AV
  | .tmp t => st.fr.getD t .undef
  | .const v => ofConst v
  | .func f => xv (.fn f [] [])
  | _ => .undef
/-- A bare nil gets its type; a truth stands as one. -/
def cast (P : Program) (t : TypeId) : AV → AV
  | .nilsl => match P.underlying t with
    | some (.slice e) => .dt ⟨false, [.sl e]⟩ (.sl []) [.nl]
    | _ => .nilsl
  | .dt ⟨false, [.bool]⟩ d ap => .dt ⟨false, [.bool]⟩ (.bool d.toBool) ap
  | a => a
/-- A truth stands as one. -/
def norm : AV → AV
  | .dt ⟨false, [.bool]⟩ d ap => .dt ⟨false, [.bool]⟩ (.bool d.toBool) ap
  | a => a
def ofCell : LK → Value → Option (D × Ap)
  | .int k, .int k' n => if k = k' then some (.int n, .ro) else none
  | .bool, .bool b => some (.bool b, .ro)
  | .str, .string s => some (.str s, .ro)
  | .sl _, .slice none 0 0 => some (.sl [], .nl)
  | .x, .pointer none => some (.int 0, .x .nil)
  | .x, .map none => some (.int 0, .x .nil)
  | .x, .nilFunc => some (.int 0, .x .nil)
  | _, _ => none
def ofCells : List LK → List Value → Option (List D × List Ap)
  | [], [] => some ([], [])
  | k :: ks, v :: vs => match ofCell k v, ofCells ks vs with
    | some d, some r => some (d.1 :: r.1, d.2 :: r.2)
    | _, _ => none
  | _, _ => none
def mkD (agg : Bool) (l : List D) : D := if agg then .agg l else l.getD 0 (.int 0)
def nzT (P : Program) (t : TypeId) : Bool := match sizeT P t with | some 0 => false | some _ => true | none => false
def isBoolT (P : Program) (t : TypeId) : Bool := match P.underlying t with | some .bool => true | _ => false
def isAggV : Value → Bool | .agg _ => true | _ => false
def zeroD (P : Program) (t : TypeId) (s : Sh) : Option (D × List Ap) := match P.info? t with
  | some i => match i.zero with
    | some z => if isAggV z = s.agg then
        match ofCells s.ks z.cells.toList with
        | some l => some (mkD s.agg l.1, l.2)
        | none => none
      else none
    | none => none
  | none => none
def roAps : List LK → List Ap
  | [] => []
  | _ :: r => .ro :: roAps r

/-- Is the slice alive? -/
def okAp (st : St) : Ap → Bool
  | .arr m => match st.tk.getD m none with | some true => true | _ => false
  | .dead | .x _ => false
  | _ => true

/-- What an operation does to variables and marks. -/
inductive HE where
  | none
  | ob (n : Nat) (o : Ob)
  | app (was : Option Nat) (now : Nat)
structure Out where
  v : AV
  he : HE
def val (v : AV) : Option (Bool × Out) := some (true, ⟨v, .none⟩)

def setR {α : Type} (l : List α) (off : Nat) : List α → List α
  | [] => l
  | v :: r => setR (l.set off v) (off + 1) r
def leavesOf (s : Sh) (d : D) : List D := if s.agg then d.subL 0 s.ks.length else [d]
def storeC (s0 : Sh) (d0 : D) (aps0 : List Ap) (off : Nat) (s : Sh) (d : D) (aps : List Ap) : D × List Ap :=
  if s.agg && off == 0 && s.ks.length == s0.ks.length && s0.agg then (d, aps)
  else (mkD s0.agg (setR (leavesOf s0 d0) off (leavesOf s d)), setR aps0 off aps)
def loadC (s0 : Sh) (d0 : D) (aps0 : List Ap) (off : Nat) (s : Sh) : AV :=
  if s.agg then (if s0.agg then (if off == 0 && s.ks.length == s0.ks.length then .dt s d0 aps0 else .dt s (.agg (d0.subL off s.ks.length)) ((aps0.drop off).take s.ks.length)) else .undef)
  else .dt s (s0.at d0 off) [aps0.getD off .dead]
def fits (ks0 : List LK) (off : Nat) (s : Sh) : Bool := decide ((ks0.drop off).take s.ks.length = s.ks) && decide (s.ks ≠ [])

def binInt (op : BinOp) (k : IntKind) (x y : Int) : Option (Bool × D) := match op with
  | .add => some (true, .int (k.wrap (x + y)))
  | .sub => some (true, .int (k.wrap (x - y)))
  | .mul => some (true, .int (k.wrap (x * y)))
  | .quo => some (decide (y ≠ 0), .int (k.wrap (x.tdiv y)))
  | .rem => some (decide (y ≠ 0), .int (x.tmod y))
  | .eql => some (true, .bool (x == y))
  | .neq => some (true, .bool (x != y))
  | .lss => some (true, .bool (decide (x < y)))
  | .leq => some (true, .bool (decide (x ≤ y)))
  | .gtr => some (true, .bool (decide (x > y)))
  | .geq => some (true, .bool (decide (x ≥ y)))
  | _ => none
def binStr (op : BinOp) (x y : ByteArray) : Option (Bool × D) := match op with
  | .add => some (decide (x.size + y.size ≤ 9223372036854775807), .str (x ++ y))
  | .eql => some (true, .bool (decide (x = y)))
  | .neq => some (true, .bool (!decide (x = y)))
  | _ => none
def binBool (op : BinOp) (x y : Bool) : Option (Bool × D) := match op with
  | .eql => some (true, .bool (x == y))
  | .neq => some (true, .bool (!(x == y)))
  | _ => none
def isCmp : BinOp → Bool
  | .eql | .neq | .lss | .leq | .gtr | .geq => true
  | _ => false
def byteAt (s : ByteArray) (i : Int) : Int := match s[i.toNat]? with | some b => (b.toNat : Int) | none => 0
def inR (i : Int) (n : Nat) : Bool := decide (0 ≤ i) && decide (i < (n : Int))

/-- The parts of a struct that is built. -/
def fillD (P : Program) (fs : Array Field) (ks : List LK) : List D × List Ap → List (Nat × AV) → Option (List D × List Ap)
  | l, [] => some l
  | l, (i, x) :: r => match fs[i]?, x with
    | some f, .dt s d aps => if decide (sh P f.type = some s) && decide (aps.length = s.ks.length) && fits ks f.offset s then fillD P fs ks (setR l.1 f.offset (leavesOf s d), setR l.2 f.offset aps) r else none
    | _, _ => none
/-- Is it plain data, as it stands? -/
def dataAp : Ap → Bool
  | .ro | .nl | .full | .own _ => true
  | _ => false
/-- The elements of a slice that is built. -/
def fillS (s : Sh) : List D → List (Nat × AV) → Option (List D)
  | l, [] => some l
  | l, (i, x) :: r => match x with
    | .dt s' d aps => if decide (s' = s) && aps.all dataAp && decide (i < l.length) then fillS s (l.set i d) r else none
    | _ => none
def repD (d : D) : Nat → List D
  | 0 => []
  | n + 1 => d :: repD d n

/-- Maps: pairs in the order of their coming. -/
def keyEq (k : LK) (a b : D) : Bool := match k with
  | .str => decide (a.toStr = b.toStr)
  | _ => decide (a.toInt = b.toInt)
def mhas (k : LK) (x : D) : List D → Bool
  | [] => false
  | p :: r => keyEq k x (p.cell 0) || mhas k x r
def mget (k : LK) (z x : D) : List D → D
  | [] => z
  | p :: r => if keyEq k x (p.cell 0) then p.cell 1 else mget k z x r
def mput (k : LK) (x v : D) : List D → List D
  | [] => [.agg [x, v]]
  | p :: r => if keyEq k x (p.cell 0) then .agg [x, v] :: r else p :: mput k x v r
def keyK : LK → Bool | .str | .int _ => true | _ => false

def xvs : List AV → Option (List XV)
  | [] => some []
  | .dt ⟨false, [.x]⟩ _ [.x v] :: r => match xvs r with | some l => some (v :: l) | none => none
  | _ :: _ => none

/-- Which appends and cuts make rows of their own. -/
structure Ifc where
  slots : List (Nat × TypeId)
  objs : List Nat
  toks : List (Nat × Option Nat × Bool × Nat)
structure LoopCfg where
  keep : List Nat
  keepO : List Nat
  head : Ifc
  exits : List (Option Nat × Ifc)
/-- What is told of a function: which slots' slices are rows of their own (arr); results that may be appended to (true: a row of its own); of the variables that come: which are only read, and the owned cells (variable, cell, is it a row); of its parameters that are rows; loops; places where ways meet. -/
structure FCfg where
  arrs : List Nat
  own : List (Nat × Bool)
  roIn : List Nat
  ins : List (Nat × Nat × Bool)
  argArr : List Nat
  loop : Nat → Option LoopCfg
  cut : Nat → Option Ifc
  rcut : Nat → Option Ifc

def apMk (fc : FCfg) (n m : Nat) : Ap := if fc.arrs.contains n then .arr m else .own m
def freeTk (st : St) (n : Nat) : Bool := decide (st.tb + n < st.tk.length) && (st.tk.getD (st.tb + n) (some true)).isNone && !st.protT.contains (st.tb + n)
def liveTk (st : St) (m : Nat) : Bool := match st.tk.getD m none with | some true => true | _ => false
def useTk (st : St) (m : Nat) : Bool := liveTk st m && !st.protT.contains m

/-- The operations that neither branch nor call: is it sure not to fail, and what it does. -/
def core (P : Program) (fc : FCfg) (o : Oper) (st : St) : Option (Bool × Out) :=
  match o.op with
  | .move x | .assign x => val (cast P o.type (st.ev x))
  | .alloc e => match o.dst, sh P e with
    | some n, some s => match zeroD P e s with
      | some z => if (st.hp.getD (st.nb + n) none).isNone && decide (st.nb + n < st.hp.length) && !st.protM.contains (st.nb + n) then some (true, ⟨xv (.ptr (st.nb + n) 0), .ob (st.nb + n) (.cells s z.1 z.2)⟩) else none
      | none => none
    | _, _ => none
  | .box e x => match o.dst, sh P e, cast P e (st.ev x) with
    | some n, some s, .dt s' d aps => if decide (s' = s) && decide (aps.length = s.ks.length) && (st.hp.getD (st.nb + n) none).isNone && decide (st.nb + n < st.hp.length) && !st.protM.contains (st.nb + n) then some (true, ⟨xv (.ptr (st.nb + n) 0), .ob (st.nb + n) (.cells s d aps)⟩) else none
    | _, _, _ => none
  | .build t ps => match P.underlying t, sh P t with
    | some (.struct fs), some s => match zeroD P t s with
      | some z => match fillD P fs s.ks (z.1.subL 0 s.ks.length, z.2) (ps.toList.map fun p => (p.1, match fs[p.1]? with | some f => cast P f.type (st.ev p.2) | none => .undef)) with
        | some l => val (.dt s (.agg l.1) l.2)
        | none => none
      | none => none
    | _, _ => none
  | .buildSlice t n ps => match P.underlying t with
    | some (.slice e) => match shp P e with
      | some s => match zeroD P e s with
        | some z => if decide (n ≤ 16777216) && decide (n * s.ks.length ≤ 16777216) then match fillS s (repD z.1 n) (ps.toList.map fun p => (p.1, cast P e (st.ev p.2))) with
          | some l => val (.dt ⟨false, [.sl e]⟩ (.sl l) [.full])
          | none => none
          else none
        | none => none
      | none => none
    | _ => none
  | .load t a => match st.ev a, sh P t with
    | .dt ⟨false, [.x]⟩ _ [.x (.ptr n off)], some s => match st.hp.getD n none with
      | some (.cells s0 d0 aps0) => if fits s0.ks off s then val (loadC s0 d0 aps0 off s) else none
      | _ => none
    | .ip s0 d off, some s => if fits s0.ks off s then val (loadC s0 d (roAps s0.ks) off s) else none
    | .ep m s0 d off, some s => if fits s0.ks off s && liveTk st m then val (loadC s0 d (roAps s0.ks) off s) else none
    | _, _ => none
  | .store t a x => match st.ev a, sh P t, cast P t (st.ev x) with
    | .dt ⟨false, [.x]⟩ _ [.x (.ptr n off)], some s, .dt s' d aps => match st.hp.getD n none with
      | some (.cells s0 d0 aps0) => if decide (s' = s) && decide (aps.length = s.ks.length) && fits s0.ks off s && !st.prot.contains n then
          some (true, ⟨.undef, .ob n (.cells s0 (storeC s0 d0 aps0 off s d aps).1 (storeC s0 d0 aps0 off s d aps).2)⟩) else none
      | _ => none
    | _, _, _ => none
  | .nilCheck x => match st.ev x with
    | .dt ⟨false, [.x]⟩ d [.x (.ptr n off)] => val (.dt ⟨false, [.x]⟩ d [.x (.ptr n off)])
    | .ip s d off => val (.ip s d off)
    | .ep m s d off => if liveTk st m then val (.ep m s d off) else none
    | _ => none
  | .fieldAddr t x f => match P.underlying t, st.ev x with
    | some (.struct fs), .dt ⟨false, [.x]⟩ _ [.x (.ptr n off)] => match fs[f]? with
      | some fd => if nzT P fd.type then val (xv (.ptr n (off + fd.offset))) else none
      | none => none
    | some (.struct fs), .ip s d off => match fs[f]? with
      | some fd => if nzT P fd.type then val (.ip s d (off + fd.offset)) else none
      | none => none
    | some (.struct fs), .ep m s d off => match fs[f]? with
      | some fd => if nzT P fd.type && liveTk st m then val (.ep m s d (off + fd.offset)) else none
      | none => none
    | _, _ => none
  | .field t x f => match P.underlying t, st.ev x with
    | some (.struct fs), .dt s0 d aps => match fs[f]? with
      | some fd => match sh P fd.type with
        | some s => if s0.agg && fits s0.ks fd.offset s then val (loadC s0 d aps fd.offset s) else none
        | none => none
      | none => none
    | _, _ => none
  | .indexAddr t x i => match P.underlying t, st.ev x, st.ev i with
    | some (.slice e), .dt ⟨false, [.sl e']⟩ d [ap], .dt ⟨false, [.int _]⟩ di [.ro] => if e = e' then match shp P e with
      | some s => if dataAp ap then some (inR di.toInt d.toL.length, ⟨.ip s (d.toL.getD di.toInt.toNat (.int 0)) 0, .none⟩) else match ap with
        | .arr m => if liveTk st m then some (inR di.toInt d.toL.length, ⟨.ep m s (d.toL.getD di.toInt.toNat (.int 0)) 0, .none⟩) else none
        | _ => none
      | none => none
      else none
    | _, _, _ => none
  | .index t x i => match P.underlying t, st.ev x, st.ev i with
    | some .string, .dt ⟨false, [.str]⟩ d [.ro], .dt ⟨false, [.int _]⟩ di [.ro] => some (inR di.toInt d.toStr.size, ⟨sc (.int .u8) (.int (byteAt d.toStr di.toInt)), .none⟩)
    | _, _, _ => none
  | .extract x i => match st.ev x with
    | .tup l => match l[i]? with
      | some v => val v
      | none => none
    | _ => none
  | .binOp op t x y _ => match st.ev x, st.ev y with
    | .dt ⟨false, [.int k]⟩ a [.ro], .dt ⟨false, [.int k']⟩ b [.ro] => if k = k' then match binInt op k a.toInt b.toInt with
      | some (c, d) => some (c, ⟨if isCmp op then sc .bool d else sc (.int k) d, .none⟩)
      | none => none
      else none
    | .dt ⟨false, [.str]⟩ a [.ro], .dt ⟨false, [.str]⟩ b [.ro] => match binStr op a.toStr b.toStr with
      | some (c, d) => some (c, ⟨if isCmp op then sc .bool d else sc .str d, .none⟩)
      | none => none
    | .dt ⟨false, [.bool]⟩ a [.ro], .dt ⟨false, [.bool]⟩ b [.ro] => if isBoolT P t then match binBool op a.toBool b.toBool with
      | some (c, d) => some (c, ⟨sc .bool d, .none⟩)
      | none => none
      else none
    | _, _ => none
  | .unOp op _ x => match op, st.ev x with
    | .not, .dt ⟨false, [.bool]⟩ a [.ro] => val (sc .bool (.bool (!a.toBool)))
    | .neg, .dt ⟨false, [.int k]⟩ a [.ro] => val (sc (.int k) (.int (k.wrap (0 - a.toInt))))
    | _, _ => none
  | .convert src dst x => match P.underlying src, P.underlying dst, st.ev x with
    | some (.int _), some (.int k), .dt ⟨false, [.int _]⟩ a [.ro] => val (sc (.int k) (.int (k.wrap a.toInt)))
    | some .string, some .string, .dt ⟨false, [.str]⟩ a [.ro] => val (.dt ⟨false, [.str]⟩ a [.ro])
    | _, _, _ => none
  | .slice t x lo hi mx => match P.underlying t, st.ev x with
    | some .string, .dt ⟨false, [.str]⟩ d [.ro] => if mx.isNone then match (lo.map st.ev).getD (sc (.int .i64) (.int 0)), (hi.map st.ev).getD (sc (.int .i64) (.int (d.toStr.size : Int))) with
      | .dt ⟨false, [.int _]⟩ l [.ro], .dt ⟨false, [.int _]⟩ h [.ro] => some (decide (0 ≤ l.toInt) && decide (l.toInt ≤ h.toInt) && decide (h.toInt ≤ (d.toStr.size : Int)), ⟨sc .str (.str (d.toStr.extract l.toInt.toNat h.toInt.toNat)), .none⟩)
      | _, _ => none
      else none
    | some (.slice e), .dt ⟨false, [.sl e']⟩ d [ap] => if decide (e = e') && (shp P e).isSome then match (lo.map st.ev).getD (sc (.int .i64) (.int 0)), (hi.map st.ev).getD (sc (.int .i64) (.int (d.toL.length : Int))) with
      | .dt ⟨false, [.int _]⟩ l [.ro], .dt ⟨false, [.int _]⟩ h [.ro] => match mx with
        | none => match ap with
          | .arr m => match o.dst with
            | some n => if useTk st m && freeTk st n && lo.isNone then some (decide (0 ≤ h.toInt) && decide (h.toInt ≤ (d.toL.length : Int)), ⟨.dt ⟨false, [.sl e]⟩ (.sl (d.toL.take h.toInt.toNat)) [.arr (st.tb + n)], .app (some m) (st.tb + n)⟩) else none
            | none => none
          | ap => if dataAp ap then some (decide (0 ≤ l.toInt) && decide (l.toInt ≤ h.toInt) && decide (h.toInt ≤ (d.toL.length : Int)), ⟨.dt ⟨false, [.sl e]⟩ (.sl ((d.toL.take h.toInt.toNat).drop l.toInt.toNat)) [.ro], .none⟩) else none
        | some y => match st.ev y with
          | .dt ⟨false, [.int _]⟩ q [.ro] => if dataAp ap && hi.isSome then some (decide (0 ≤ l.toInt) && decide (l.toInt ≤ h.toInt) && decide (h.toInt ≤ (d.toL.length : Int)) && decide (q.toInt = h.toInt), ⟨.dt ⟨false, [.sl e]⟩ (.sl ((d.toL.take h.toInt.toNat).drop l.toInt.toNat)) [.full], .none⟩) else none
          | _ => none
      | _, _ => none
      else none
    | _, _ => none
  | .makeFunc (.func f) first cap => match xvs (first.toList.map st.ev), xvs (cap.toList.map st.ev) with
    | some a, some b => val (xv (.fn f a b))
    | _, _ => none
  | .makeMap t r => match P.underlying t, o.dst with
    | some (.map k v), some n => match shp P k, shp P v with
      | some ⟨false, [kk]⟩, some _ => if keyK kk && r.isNone && (st.hp.getD (st.nb + n) none).isNone && decide (st.nb + n < st.hp.length) && !st.protM.contains (st.nb + n) then some (true, ⟨xv (.mp (st.nb + n)), .ob (st.nb + n) (.map k v (.sl []))⟩) else none
      | _, _ => none
    | _, _ => none
  | .lookup t x i ok => match P.underlying t, st.ev x, st.ev i with
    | some (.map k v), .dt ⟨false, [.x]⟩ _ [.x (.mp n)], .dt ⟨false, [kk]⟩ di [.ro] => match st.hp.getD n none, shp P k, shp P v with
      | some (.map k' v' d), some s, some sv => match zeroD P v sv with
        | some z => if decide (s = ⟨false, [kk]⟩) && decide (k = k') && decide (v = v') && keyK kk then
            val (if ok then .tup [.dt sv (mget kk z.1 di d.toL) (roAps sv.ks), sc .bool (.bool (mhas kk di d.toL))] else .dt sv (mget kk z.1 di d.toL) (roAps sv.ks)) else none
        | none => none
      | _, _, _ => none
    | _, _, _ => none
  | .mapUpdate t m i x => match P.underlying t, st.ev m, st.ev i, st.ev x with
    | some (.map k v), .dt ⟨false, [.x]⟩ _ [.x (.mp n)], .dt ⟨false, [kk]⟩ di [.ro], ax => match st.hp.getD n none, shp P k, shp P v, cast P v ax with
      | some (.map k' v' d), some s, some sv, .dt s' dv aps => if decide (s = ⟨false, [kk]⟩) && decide (k = k') && decide (v = v') && keyK kk && decide (s' = sv) && aps.all dataAp && !st.prot.contains n then
            some (true, ⟨.undef, .ob n (.map k v (.sl (mput kk di dv d.toL)))⟩) else none
      | _, _, _, _ => none
    | _, _, _, _ => none
  | .call c => match c.callee, c.args.toList with
    | .builtin .len, [x] => match c.argTypes[0]?.bind P.underlying, st.ev x with
      | some .string, .dt ⟨false, [.str]⟩ d [.ro] => val (sc (.int .i64) (.int (d.toStr.size : Int)))
      | some (.slice _), .dt ⟨false, [.sl _]⟩ d [ap] => if okAp st ap then val (sc (.int .i64) (.int (d.toL.length : Int))) else none
      | _, _ => none
    | .builtin .append, [x, y] => match c.argTypes.toList, o.dst with
      | [t, u], some n => if t = u then match P.underlying t, cast P t (st.ev x), cast P t (st.ev y) with
        | some (.slice e), .dt ⟨false, [.sl e']⟩ dx [ap], .dt ⟨false, [.sl e'']⟩ dy [aq] => match shp P e, P.info? e with
          | some s, some i => if decide (e = e') && decide (e = e'') && decide (i.bytes ≤ 1024) && dataAp aq && freeTk st n && decide ((i.zero.map fun z => z.cells.size) = some s.ks.length) then
            match ap with
            | .nl => some (decide (dx.toL.length + dy.toL.length ≤ 34359738368), ⟨.dt ⟨false, [.sl e]⟩ (.sl (dx.toL ++ dy.toL)) [apMk fc n (st.tb + n)], .app none (st.tb + n)⟩)
            | .full => if fc.arrs.contains n then none else some (decide (dx.toL.length + dy.toL.length ≤ 34359738368), ⟨.dt ⟨false, [.sl e]⟩ (.sl (dx.toL ++ dy.toL)) [.own (st.tb + n)], .app none (st.tb + n)⟩)
            | .own m => if useTk st m && !fc.arrs.contains n then some (decide (dx.toL.length + dy.toL.length ≤ 34359738368), ⟨.dt ⟨false, [.sl e]⟩ (.sl (dx.toL ++ dy.toL)) [.own (st.tb + n)], .app (some m) (st.tb + n)⟩) else none
            | .arr m => if useTk st m && fc.arrs.contains n then some (decide (dx.toL.length + dy.toL.length ≤ 34359738368), ⟨.dt ⟨false, [.sl e]⟩ (.sl (dx.toL ++ dy.toL)) [.arr (st.tb + n)], .app (some m) (st.tb + n)⟩) else none
            | _ => none
            else none
          | _, _ => none
        | _, _, _ => none
        else none
      | _, _ => none
    | _, _ => none
  | _ => none

def HE.on (st : St) : HE → St
  | .none => st
  | .ob n o => { st with hp := st.hp.set n (some o) }
  | .app Option.none n => { st with tk := st.tk.set n (some true) }
  | .app (some m) n => { st with tk := (st.tk.set m (some false)).set n (some true) }
def St.put (st : St) (dst : Option Tmp) (v : AV) : St := match dst with
  | some d => { st with fr := st.fr.set d (norm v) }
  | none => st
def St.out (st : St) (dst : Option Tmp) (o : Out) : St := (o.he.on st).put dst o.v

/-- What a call or a loop comes to: by which way out, and the data. -/
abbrev R := Nat × List D
/-- Functions by their numbers: what they are called with, and the variables that come with it. -/
abbrev Env := FuncId → List AV → List Ob → Option R
def shapes (P : Program) : List TypeId → Option (List Sh)
  | [] => some []
  | t :: r => match shp P t, shapes P r with
    | some s, some l => some (s :: l)
    | _, _ => none

/-- The variables that are reached from a value. -/
def XV.names : XV → List Nat
  | .nil => []
  | .ptr n _ => [n]
  | .mp n => [n]
  | .fn _ a b => nm a ++ nm b
 where nm : List XV → List Nat
  | [] => []
  | v :: r => v.names ++ nm r
def apNames : List Ap → List Nat
  | [] => []
  | .x v :: r => v.names ++ apNames r
  | _ :: r => apNames r
def obNames : Option Ob → List Nat
  | some (.cells _ _ aps) => apNames aps
  | _ => []
def gather (hp : List (Option Ob)) : Nat → List Nat → List Nat → List Nat
  | 0, _, acc => acc
  | _ + 1, [], acc => acc
  | k + 1, n :: r, acc => if acc.contains n then gather hp k r acc else gather hp k (obNames (hp.getD n none) ++ r) (acc ++ [n])
def avNames : AV → List Nat
  | .dt _ _ aps => apNames aps
  | _ => []
def allNames : List AV → List Nat
  | [] => []
  | a :: r => avNames a ++ allNames r
def posOf (l : List Nat) (n : Nat) : Nat := match l with
  | [] => 0
  | a :: r => if a = n then 0 else posOf r n + 1
def XV.ren (l : List Nat) : XV → XV
  | .nil => .nil
  | .ptr n off => .ptr (posOf l n) off
  | .mp n => .mp (posOf l n)
  | .fn f a b => .fn f (rn a) (rn b)
 where rn : List XV → List XV
  | [] => []
  | v :: r => v.ren l :: rn r
/-- The annotations of a variable's cells as a callee gets them: an owned cell has a mark of its own. -/
def renAps (l : List Nat) (ins : List (Nat × Nat × Bool)) (p j : Nat) : List Ap → List Ap
  | [] => []
  | a :: r => (match a with
    | .x v => .x (v.ren l)
    | a => match insAt ins 0 p j with
      | some (q, true) => .arr q
      | some (q, false) => .own q
      | none => match a with | .dead => .dead | .arr _ => .dead | _ => .ro) :: renAps l ins p (j + 1) r
 where insAt : List (Nat × Nat × Bool) → Nat → Nat → Nat → Option (Nat × Bool)
  | [], _, _, _ => none
  | (p', j', b) :: r, q, p, j => if p' = p ∧ j' = j then some (q, b) else insAt r (q + 1) p j
def renOb (l : List Nat) (ins : List (Nat × Nat × Bool)) (p : Nat) : Option Ob → Option Ob
  | some (.cells s d aps) => some (.cells s d (renAps l ins p 0 aps))
  | some (.map k v d) => some (.map k v d)
  | none => none
def renObs (hp : List (Option Ob)) (l : List Nat) (ins : List (Nat × Nat × Bool)) (p : Nat) : List Nat → Option (List Ob)
  | [] => some []
  | n :: r => match renOb l ins p (hp.getD n none), renObs hp l ins (p + 1) r with
    | some o, some os => some (o :: os)
    | _, _ => none
def apAt (st : St) (i : Nat) : Option Nat → Ap
  | none => match st.fr.getD i .undef with | .dt _ _ [ap] => ap | _ => .dead
  | some j => match st.hp.getD i none with | some (.cells _ _ aps) => aps.getD j .dead | _ => .dead
def tokMarks (st : St) : List (Nat × Option Nat × Bool × Nat) → List Nat
  | [] => []
  | (i, j, _, _) :: r => (match apAt st i j with | .own m | .arr m => [m] | _ => []) ++ tokMarks st r
/-- The marks of what is owned there: none twice. -/
def kAt (st : St) (i : Nat) : Option Nat → Option TypeId
  | none => match st.fr.getD i .undef with | .dt ⟨_, [.sl e]⟩ _ _ => some e | _ => none
  | some j => match st.hp.getD i none with | some (.cells s _ _) => (match s.ks.getD j .bool with | .sl e => some e | _ => none) | _ => none
def kOk (P : Program) (st : St) (i : Nat) (j : Option Nat) : Bool := match kAt st i j with | some e => (shp P e).isSome | none => false
def packT (P : Program) (st : St) : List (Nat × Option Nat × Bool × Nat) → Bool
  | [] => true
  | (i, j, b, _) :: r => (match apAt st i j with
    | .nl => true
    | .full => !b
    | .own m => !b && useTk st m
    | .arr m => b && useTk st m
    | _ => false) && kOk P st i j && packT P st r
/-- The owned cells that go along. -/
def insT (l : List Nat) : List (Nat × Nat × Bool) → List (Nat × Option Nat × Bool × Nat)
  | [] => []
  | (p, j, b) :: r => (l.getD p 0, some j, b, 0) :: insT l r
/-- Arguments: data as it is read; addresses and functions by the callee's numbers; rows that are given away get marks from q on. -/
def castArg (P : Program) (l : List Nat) (ga : List Nat) (i q : Nat) (t : TypeId) (a : AV) : Option AV := match sh P t, cast P t a with
  | some s, .dt s' d aps => if decide (s = s') && decide (aps.length = s.ks.length) then
      (if ga.contains i then (match s.ks, aps with
        | [.sl e], [.arr _] => if (shp P e).isSome then some (.dt s d [.arr q]) else none
        | [.sl e], [.nl] => if (shp P e).isSome then some (.dt s d [.arr q]) else none
        | _, _ => none)
      else if s.plain then (if aps.all dataAp then some (.dt s d (roAps s.ks)) else none)
      else (match s, aps with
        | ⟨false, [.x]⟩, [.x v] => some (xv (v.ren l))
        | _, _ => none)) else none
  | _, _ => none
def castArgs (P : Program) (l : List Nat) (ga : List Nat) : Nat → Nat → List TypeId → List AV → Option (List AV)
  | _, _, [], [] => some []
  | i, q, t :: ts, a :: r => match castArg P l ga i q t a, castArgs P l ga (i + 1) (if ga.contains i then q + 1 else q) ts r with
    | some x, some as => some (x :: as)
    | _, _ => none
  | _, _, _, _ => none
def gaCount (ga : List Nat) : Nat → List TypeId → Nat
  | _, [] => 0
  | i, _ :: r => (if ga.contains i then 1 else 0) + gaCount ga (i + 1) r
/-- The marks of the rows that are given away. -/
def gaMarks (P : Program) (ga : List Nat) : Nat → List TypeId → List AV → List Nat
  | i, t :: ts, a :: r => (if ga.contains i then (match cast P t a with | .dt _ _ [.arr m] => [m] | _ => []) else []) ++ gaMarks P ga (i + 1) ts r
  | _, _, _ => []
def nodup : List Nat → Bool
  | [] => true
  | a :: r => !r.contains a && nodup r
/-- The results of a call as slots hold them. -/
def resAVs (own : List (Nat × Bool)) (m : Nat) : List Sh → Nat → List D → List AV
  | [], _, _ => []
  | s :: r, i, ds => .dt s (ds.getD i (.int 0)) (match ownOf own i with | some true => [.arr m] | some false => [.own m] | none => roAps s.ks) :: resAVs own m r (i + 1) ds
 where ownOf : List (Nat × Bool) → Nat → Option Bool
  | [], _ => none
  | (i, b) :: r, j => if i = j then some b else ownOf r j
def resAV (l : List AV) : AV := match l with
  | [v] => v
  | l => .tup l
/-- Marks that a callee got: nobody else has them any more. -/
def dropAp (ms : List Nat) : Ap → Ap
  | .own m => if ms.contains m then .ro else .own m
  | .arr m => if ms.contains m then .dead else .arr m
  | a => a
def dropAV (ms : List Nat) : AV → AV
  | .dt s d aps => .dt s d (aps.map (dropAp ms))
  | .ep m s d off => if ms.contains m then .undef else .ep m s d off
  | .tup l => if l.all (noMark ms) then .tup l else .undef
  | a => a
 where noMark (ms : List Nat) : AV → Bool
  | .dt _ _ aps => aps.all fun
    | .own m | .arr m => !ms.contains m
    | _ => true
  | .ep m _ _ _ => !ms.contains m
  | .tup _ => false
  | _ => true
def dropOb (ms : List Nat) : Option Ob → Option Ob
  | some (.cells s d aps) => some (.cells s d (aps.map (dropAp ms)))
  | o => o

/-- The n-th mark from i on that is free. -/
def freeMark (tk : List (Option Bool)) : Nat → Nat → Nat
  | 0, i => i
  | k + 1, i => match tk.getD i (some true) with
    | none => i
    | some _ => freeMark tk k (i + 1)
/-- Which marks the owned cells have behind a call. -/
def marksAfter (st : St) (l : List Nat) : List (Option Bool) → List (Nat × Nat × Bool) → List Nat
  | _, [] => []
  | tk, (p, j, _) :: r =>
    let m := match st.hp.getD (l.getD p 0) none with
      | some (.cells _ _ aps) => (match aps.getD j .dead with | .own m | .arr m => m | _ => freeMark tk 64 (st.tb + st.fr.length))
      | _ => 0
    m :: marksAfter st l (tk.set m (some true)) r
def okAfter (st : St) (ms : List Nat) (m : Nat) : Bool := ms.contains m || (decide (m < st.tk.length) && (st.tk.getD m (some true)).isNone && !st.protT.contains m)
def dropAll (st : St) (ms : List Nat) : St := if ms.isEmpty then st else
  { st with fr := st.fr.map (dropAV ms), hp := st.hp.map (dropOb ms), tk := kill st.tk ms }
 where kill (tk : List (Option Bool)) : List Nat → List (Option Bool)
  | [] => tk
  | m :: r => kill (tk.set m (some false)) r
/-- The variables that came along, behind the call. -/
def backOb (o : Option Ob) (d : D) : Option Ob := match o with
  | some (.cells s _ aps) => some (.cells s d (aps.map fun | .nl => .ro | .full => .ro | .own _ => .ro | .arr _ => .dead | a => a))
  | some (.map k v _) => some (.map k v d)
  | none => none
def backObs (ro : List Nat) (ds : List D) : List Nat → Nat → Nat → List (Option Ob) → List (Option Ob)
  | [], _, _, hp => hp
  | n :: r, p, k, hp => if ro.contains p then backObs ro ds r (p + 1) k hp else backObs ro ds r (p + 1) (k + 1) (hp.set n (backOb (hp.getD n none) (ds.getD k (.int 0))))
def setMark (st : St) (n j m : Nat) (b : Bool) : St := { st with
  hp := st.hp.set n (match st.hp.getD n none with | some (.cells s d aps) => some (.cells s d (aps.set j (if b then .arr m else .own m))) | o => o)
  tk := st.tk.set m (some true) }
def backMarks (l : List Nat) : List (Nat × Nat × Bool) → List Nat → St → St
  | (p, j, b) :: r, m :: ms, st => backMarks l r ms (setMark st (l.getD p 0) j m b)
  | _, _, st => st
def protOk (st : St) (ro : List Nat) : List Nat → Nat → Bool
  | [], _ => true
  | n :: r, p => (!st.prot.contains n || ro.contains p) && protOk st ro r (p + 1)

def isPick : Op → Option (Operand × Operand × Operand)
  | .pick c a b => some (c, a, b)
  | _ => none
def isCall : Op → Option (Operand × List Operand)
  | .call c => match c.callee with
    | .value v => some (v, c.args.toList)
    | _ => none
  | _ => none
def mayPut (st : St) (dst : Option Tmp) : Bool := match dst with
  | some d => !st.protS.contains d && decide (d < st.fr.length)
  | none => true
/-- What a call is: the arguments and the variables that go along, and the state behind it. -/
structure Cl where
  f : FuncId
  args : List AV
  obs : List Ob
  back : List D → St
def ownOk (own : List (Nat × Bool)) (st : St) (dst : Option Tmp) : Bool := match own, dst with
  | [], _ => true
  | [_], some n => freeTk st n
  | _, _ => false
/-- The state behind a call. -/
def clBack (fc : FCfg) (st : St) (l ms : List Nat) (dst : Option Tmp) (ss : List Sh) (ds : List D) : St :=
  let st1 := dropAll st ms
  let st2 := { st1 with hp := backObs fc.roIn (ds.drop ss.length) l 0 0 st1.hp }
  let st3 := backMarks l fc.ins (marksAfter st l st.tk fc.ins) st2
  let m := st.tb + dst.getD 0
  let st4 := if fc.own.isEmpty then st3 else { st3 with tk := st3.tk.set m (some true) }
  st4.put dst (resAV (resAVs fc.own m ss 0 ds))
/-- All that is reached goes along, each once. -/
def reachOk (hp : List (Option Ob)) (l names : List Nat) : Bool := names.all (fun n => l.contains n) && l.all (fun n => (obNames (hp.getD n none)).all (fun k => l.contains k)) && nodup l
/-- No cell twice. -/
def nodupP : List (Nat × Nat × Bool) → Bool
  | [] => true
  | x :: r => r.all (fun y => !(y.1 == x.1 && y.2.1 == x.2.1)) && nodupP r
def calleeOk (P : Program) (fc : FCfg) (fn : Func) (st : St) (dst : Option Tmp) (l : List Nat) (ncap : Nat) (all : List AV) : Bool :=
  packT P st (insT l fc.ins) && nodup (tokMarks st (insT l fc.ins) ++ gaMarks P fc.argArr 0 fn.params.toList all) && (gaMarks P fc.argArr 0 fn.params.toList all).all (useTk st) && protOk st fc.roIn l 0
    && decide (ncap = fn.nfree) && ownOk fc.own st dst && nodup ((marksAfter st l st.tk fc.ins) ++ (if fc.own.isEmpty then [] else [st.tb + dst.getD 0]))
    && (marksAfter st l st.tk fc.ins).all (okAfter st (tokMarks st (insT l fc.ins) ++ gaMarks P fc.argArr 0 fn.params.toList all)) && fc.ins.all (fun x => !fc.roIn.contains x.1 && decide (x.1 < l.length)) && decide (fc.argArr.length = gaCount fc.argArr 0 fn.params.toList) && nodupP fc.ins
def callee (P : Program) (cfs : FuncId → Nat → FCfg) (o : Oper) (v : Operand) (as : List Operand) (st : St) : Option Cl :=
  match st.ev v with
  | .dt ⟨false, [.x]⟩ _ [.x (.fn f first cap)] => match P.funcs[f]? with
    | some fn =>
      let all := first.map xv ++ as.map st.ev
      let l := gather st.hp 1000 (allNames (all ++ cap.map xv)) []
      let fc := cfs f l.length
      match castArgs P l fc.argArr 0 fc.ins.length fn.params.toList all, renObs st.hp l fc.ins 0 l, shapes P fn.resultTypes.toList with
      | some args, some obs, some ss =>
        if (calleeOk P fc fn st o.dst l cap.length all && reachOk st.hp l (allNames (all ++ cap.map xv))) = true then
          some ⟨f, args ++ cap.map (fun v => xv (v.ren l)), obs, clBack fc st l (tokMarks st (insT l fc.ins) ++ gaMarks P fc.argArr 0 fn.params.toList all) o.dst ss⟩
        else none
      | _, _, _ => none
    | none => none
  | _ => none

def step (P : Program) (cfs : FuncId → Nat → FCfg) (fc : FCfg) (env : Env) (o : Oper) (st : St) (k : St → Option R) : Option R :=
  if mayPut st o.dst = true then match isPick o.op with
  | some (c, a, b) => match st.ev c with
    | .dt ⟨false, [.bool]⟩ d [.ro] => if d.toBool = true then k (st.put o.dst (cast P o.type (st.ev a))) else k (st.put o.dst (cast P o.type (st.ev b)))
    | _ => none
  | none => match isCall o.op with
    | some (v, as) => match callee P cfs o v as st with
      | some c => (env c.f c.args c.obs).bind fun r => k (c.back r.2)
      | none => none
    | none => match core P fc o st with
      | some (b, out) => if b = true then k (st.out o.dst out) else none
      | none => none
  else none

/-- An operation with its guard: a slot that holds a truth, or nothing where its own operation was left out. -/
def guardAV (ops : List Oper) (j : Nat) (st : St) : AV := match ops[j]? with
  | some oj => match oj.dst with
    | some s => st.fr.getD s .undef
    | none => .undef
  | none => .undef
def guardSet (ops : List Oper) (j : Nat) (b : Bool) (st : St) : St := match ops[j]? with
  | some oj => match oj.dst with
    | some s => { st with fr := st.fr.set s (.dt ⟨false, [.bool]⟩ (.bool b) [.ro]) }
    | none => st
  | none => st
def stepG (P : Program) (cfs : FuncId → Nat → FCfg) (fc : FCfg) (env : Env) (ops : List Oper) (o : Oper) (st : St) (k : St → Option R) : Option R :=
  match o.guard with
  | none => step P cfs fc env o st k
  | some (j, w) => match guardAV ops j st with
    | .dt ⟨false, [.bool]⟩ d [.ro] =>
      if d.toBool = w then step P cfs fc env o (guardSet ops j w st) k
      else if mayPut st o.dst = true then k ((guardSet ops j (!w) st).put o.dst .no) else none
    | .no => if mayPut st o.dst = true then k (st.put o.dst .no) else none
    | _ => none
/-- The same, one by one. -/
def stepO (P : Program) (cfs : FuncId → Nat → FCfg) (fc : FCfg) (env : Env) (o : Oper) (st : St) : Option St :=
  if mayPut st o.dst = true then match isPick o.op with
  | some (c, a, b) => match st.ev c with
    | .dt ⟨false, [.bool]⟩ d [.ro] => some (if d.toBool = true then st.put o.dst (cast P o.type (st.ev a)) else st.put o.dst (cast P o.type (st.ev b)))
    | _ => none
  | none => match isCall o.op with
    | some (v, as) => match callee P cfs o v as st with
      | some c => match env c.f c.args c.obs with
        | some r => some (c.back r.2)
        | none => none
      | none => none
    | none => match core P fc o st with
      | some (b, out) => if b = true then some (st.out o.dst out) else none
      | none => none
  else none
def stepGO (P : Program) (cfs : FuncId → Nat → FCfg) (fc : FCfg) (env : Env) (ops : List Oper) (o : Oper) (st : St) : Option St :=
  match o.guard with
  | none => stepO P cfs fc env o st
  | some (j, w) => match guardAV ops j st with
    | .dt ⟨false, [.bool]⟩ d [.ro] =>
      if d.toBool = w then stepO P cfs fc env o st
      else if mayPut st o.dst = true then some (st.put o.dst .no) else none
    | .no => if mayPut st o.dst = true then some (st.put o.dst .no) else none
    | _ => none
def stepsO (P : Program) (cfs : FuncId → Nat → FCfg) (fc : FCfg) (env : Env) (ops : List Oper) : List Oper → St → Option St
  | [], st => some st
  | o :: r, st => match stepGO P cfs fc env ops o st with
    | some st' => stepsO P cfs fc env ops r st'
    | none => none
def steps (P : Program) (cfs : FuncId → Nat → FCfg) (fc : FCfg) (env : Env) (ops : List Oper) : List Oper → St → (St → Option R) → Option R
  | [], st, k => k st
  | o :: r, st, k => stepG P cfs fc env ops o st fun st' => steps P cfs fc env ops r st' k

/-- What an operation looks at, and what it may change: slots, variables, marks. -/
structure FP where
  idx : Nat
  look : List Nat
  dst : Option Tmp
  H : List Nat
  T : List Nat
  wh : Bool
  wt : Bool
def opsOf : Op → List Operand
  | .move x | .assign x | .box _ x | .load _ x | .nilCheck x | .unOp _ _ x | .convert _ _ x | .fieldAddr _ x _ | .field _ x _ | .extract x _ => [x]
  | .pick c a b => [c, a, b]
  | .build _ ps | .buildSlice _ _ ps => ps.toList.map (·.2)
  | .store _ a v | .binOp _ _ a v _ | .indexAddr _ a v | .index _ a v | .lookup _ a v _ => [a, v]
  | .makeFunc _ first captured => first.toList ++ captured.toList
  | .makeMap _ r => r.toList
  | .slice _ x l h m => x :: (l.toList ++ (h.toList ++ m.toList))
  | .mapUpdate _ m k v => [m, k, v]
  | .call c => (match c.callee with | .value v => [v] | _ => []) ++ c.args.toList
  | _ => []
def tmpsOf : List Operand → List Nat
  | [] => []
  | .tmp t :: r => t :: tmpsOf r
  | _ :: r => tmpsOf r
def apMarks : List Ap → List Nat
  | [] => []
  | .own m :: r => m :: apMarks r
  | .arr m :: r => m :: apMarks r
  | _ :: r => apMarks r
def avMarks : AV → List Nat
  | .dt _ _ aps => apMarks aps
  | .ep m _ _ _ => [m]
  | _ => []
def namesOf (st : St) : List Operand → List Nat
  | [] => []
  | x :: r => avNames (st.ev x) ++ namesOf st r
def marksOf (st : St) : List Operand → List Nat
  | [] => []
  | x :: r => avMarks (st.ev x) ++ marksOf st r
def writesH : Op → Bool
  | .alloc _ | .box _ _ | .store _ _ _ | .makeMap _ _ | .mapUpdate _ _ _ _ => true
  | _ => false
def writesT : Op → Bool
  | .call c => (match c.callee with | .value _ => false | _ => true)
  | .slice _ _ _ _ _ => true
  | _ => false
def guardLook (ops : List Oper) (o : Oper) : List Nat := match o.guard with
  | some (j, _) => (match ops[j]? with | some oj => oj.dst.toList | none => [])
  | none => []
def fpOf (ops : List Oper) (i : Nat) (o : Oper) (st : St) : FP :=
  { idx := i, look := tmpsOf (opsOf o.op) ++ guardLook ops o, dst := o.dst, H := (st.nb + o.dst.getD 0) :: namesOf st (opsOf o.op), T := (st.tb + o.dst.getD 0) :: marksOf st (opsOf o.op), wh := writesH o.op, wt := writesT o.op }
def apartL (a b : List Nat) : Bool := a.all fun x => !b.contains x
def notDst (d : Option Tmp) (l : List Nat) : Bool := match d with
  | some d => !l.contains d
  | none => true
def notSame (d e : Option Tmp) : Bool := match d, e with
  | some d, some e => !(d == e)
  | _, _ => true
/-- Do two operations not meet. -/
def apartP (f g : FP) : Bool := notDst f.dst g.look && notDst g.dst f.look && notSame f.dst g.dst && (!(f.wh || g.wh) || apartL f.H g.H) && (!(f.wt || g.wt) || apartL f.T g.T)
/-- Which operations come ahead of each. -/
def edgesOf (o : Oper) : List Nat := o.after.toList.filterMap fun e => if Region.binds .any e then some e.on else none
def befAll (acc : List (List Nat)) : List Oper → List (List Nat)
  | [] => acc
  | o :: r => befAll (acc ++ [edgesOf o ++ (edgesOf o).flatMap fun j => acc.getD j []]) r
/-- Is the text's order one of those that are allowed. -/
def lexOk (i : Nat) : List Oper → Bool
  | [] => true
  | o :: r => (edgesOf o).all (fun j => decide (j < i)) && lexOk (i + 1) r
def pairOk (bef : List (List Nat)) (f g : FP) : Bool := (bef.getD g.idx []).contains f.idx || apartP f g
/-- May this operation come in another place: a call only if it takes no variable along. -/
def mayDraw (P : Program) (cfs : FuncId → Nat → FCfg) (o : Oper) (st : St) : Bool := match isPick o.op with
  | some _ => true
  | none => match isCall o.op with
    | some (v, as) => (match st.ev v with
      | .dt ⟨false, [.x]⟩ _ [.x (.fn f first cap)] => (cfs f 0).ins.isEmpty && (cfs f 0).argArr.isEmpty && (cfs f 0).own.isEmpty && (allNames (first.map xv ++ as.map st.ev ++ cap.map xv)).isEmpty
      | _ => false)
    | none => true
def drawSteps (P : Program) (cfs : FuncId → Nat → FCfg) (fc : FCfg) (env : Env) (ops : List Oper) (bef : List (List Nat)) : Nat → List FP → List Oper → St → (St → Option R) → Option R
  | _, _, [], st, k => k st
  | i, acc, o :: r, st, k => if mayDraw P cfs o st && acc.all (fun f => pairOk bef f (fpOf ops i o st)) then stepG P cfs fc env ops o st fun st' => drawSteps P cfs fc env ops bef (i + 1) (acc ++ [fpOf ops i o st]) r st' k else none
/-- A region's operations. -/
def stepsD (P : Program) (cfs : FuncId → Nat → FCfg) (fc : FCfg) (env : Env) (draw : Bool) (ops : List Oper) (st : St) (k : St → Option R) : Option R :=
  if draw then (if lexOk 0 ops then drawSteps P cfs fc env ops (befAll [] ops) 0 [] ops st k else none) else steps P cfs fc env ops ops st k
/-- The same, one by one. -/
def drawO (P : Program) (cfs : FuncId → Nat → FCfg) (fc : FCfg) (env : Env) (ops : List Oper) (bef : List (List Nat)) : Nat → List FP → List Oper → St → Option St
  | _, _, [], st => some st
  | i, acc, o :: r, st => if mayDraw P cfs o st && acc.all (fun f => pairOk bef f (fpOf ops i o st)) then (match stepGO P cfs fc env ops o st with
    | some st' => drawO P cfs fc env ops bef (i + 1) (acc ++ [fpOf ops i o st]) r st'
    | none => none) else none
def stepsDO (P : Program) (cfs : FuncId → Nat → FCfg) (fc : FCfg) (env : Env) (draw : Bool) (ops : List Oper) (st : St) : Option St :=
  if draw then (if lexOk 0 ops then drawO P cfs fc env ops (befAll [] ops) 0 [] ops st else none) else stepsO P cfs fc env ops ops st

inductive Ex where
  | normal
  | exit (id : Nat)
  | ret
  deriving DecidableEq
def keyOf : Code → Option Nat
  | .region id _ _ => some id
  | .seq a b => (keyOf a).or (keyOf b)
  | .cond _ a b => (keyOf a).or (keyOf b)
  | .block _ b | .loop b | .scope b => keyOf b
  | _ => none
/-- The slots that a piece of code writes. -/
def dstsO : List Oper → List Nat
  | [] => []
  | o :: r => match o.dst with | some d => d :: dstsO r | none => dstsO r
def dsts : Code → List Nat
  | .region _ ops _ => dstsO ops.toList
  | .seq a b | .cond _ a b => dsts a ++ dsts b
  | .block _ b | .loop b | .scope b => dsts b
  | _ => []
/-- What stays while code runs: the slots and variables that are told, and the shapes of the variables that change. -/
def keepAV (qo : Nat → Bool) (a : AV) : AV := match a with
  | .tup _ => .undef
  | a => if (avNames a).all qo then a else .undef
def keepS (q : Nat → Bool) (qo : Nat → Bool) (i : Nat) : List AV → List AV
  | [] => []
  | a :: r => (if q i = true then keepAV qo a else .undef) :: keepS q qo (i + 1) r
def blank : Ob → Ob
  | .cells s _ aps => .cells s (.int 0) (aps.map fun | .x v => .x v | .dead => .dead | _ => .ro)
  | .map k v _ => .map k v (.int 0)
def keepO (q : Nat → Bool) (vo : List Nat) (i : Nat) : List (Option Ob) → List (Option Ob)
  | [] => []
  | none :: r => none :: keepO q vo (i + 1) r
  | some o :: r => (if vo.contains i = true then some (blank o) else if q i = true then some o else none) :: keepO q vo (i + 1) r
def notIn (l : List Nat) (i : Nat) : Bool := !l.contains i
def isIn (l : List Nat) (i : Nat) : Bool := l.contains i
/-- The numbers of what is there. -/
def someS (i : Nat) : List AV → List Nat
  | [] => []
  | .undef :: r => someS (i + 1) r
  | _ :: r => i :: someS (i + 1) r
def someO (i : Nat) : List (Option Ob) → List Nat
  | [] => []
  | none :: r => someO (i + 1) r
  | some _ :: r => i :: someO (i + 1) r
def liveOnes (i : Nat) : List (Option Bool) → List Nat
  | [] => []
  | some true :: r => i :: liveOnes (i + 1) r
  | _ :: r => liveOnes (i + 1) r
/-- Are the variables that a variable leads to there? -/
def closedO (hp : List (Option Ob)) : List (Option Ob) → Bool
  | [] => true
  | o :: r => (obNames o).all (fun n => (hp.getD n none).isSome) && closedO hp r
def deadOnes (i : Nat) : List (Option Bool) → List Nat
  | [] => []
  | some false :: r => i :: deadOnes (i + 1) r
  | _ :: r => deadOnes (i + 1) r
def onlyLive : Option Bool → Option Bool
  | some true => some true
  | _ => none
def base (st : St) (q qo : Nat → Bool) (vo : List Nat) (toks : List (Nat × Option Nat × Bool × Nat)) : St :=
  let ms := (tokMarks st toks).filter (notIn st.protT) ++ deadOnes 0 st.tk
  let vo := vo.filter (notIn st.prot)
  let hp := keepO qo vo 0 (st.hp.map (dropOb ms))
  let fr := (keepS q (fun i => (hp.getD i none).isSome) 0 st.fr).map (dropAV ms)
  let tk := (dropAll.kill st.tk ms).map onlyLive
  { nb := st.nb, tb := st.tb, fr, hp, tk, prot := (someO 0 hp).filter (notIn vo) ++ st.prot, protM := someO 0 hp ++ st.protM, protS := someS 0 fr ++ st.protS, protT := liveOnes 0 tk ++ st.protT }
/-- The data at a way out. -/
def inToks (i : Nat) (j : Option Nat) : List (Nat × Option Nat × Bool × Nat) → Bool
  | [] => false
  | (i', j', _, _) :: r => (i' == i && j' == j) || inToks i j r
def packS (P : Program) (st : St) (toks : List (Nat × Option Nat × Bool × Nat)) : List (Nat × TypeId) → Option (List D)
  | [] => some []
  | (i, t) :: r => match st.fr.getD i .undef, shp P t, packS P st toks r with
    | .dt s d aps, some s', some l => if decide (s = s') && (aps.all dataAp || inToks i none toks) then some (d :: l) else none
    | _, _, _ => none
def packO (b st : St) (toks : List (Nat × Option Nat × Bool × Nat)) : List Nat → Option (List D)
  | [] => some []
  | i :: r => match st.hp.getD i none, b.hp.getD i none, packO b st toks r with
    | some (.cells s d aps), some (.cells s0 _ aps0), some l => if decide (s = s0) && sameX toks i 0 aps aps0 then some (d :: l) else none
    | some (.map k v d), some (.map k0 v0 _), some l => if k = k0 ∧ v = v0 then some (d :: l) else none
    | _, _, _ => none
 where
  sameX (toks : List (Nat × Option Nat × Bool × Nat)) (i j : Nat) : List Ap → List Ap → Bool
  | [], [] => true
  | .x v :: r, .x v0 :: r0 => eqX v v0 && sameX toks i (j + 1) r r0
  | a :: r, .ro :: r0 => (dataAp a || inToks i (some j) toks) && sameX toks i (j + 1) r r0
  | _ :: r, .dead :: r0 => sameX toks i (j + 1) r r0
  | _, _ => false
  eqX : XV → XV → Bool
  | .nil, .nil => true
  | .ptr n o, .ptr n' o' => n == n' && o == o'
  | .mp n, .mp n' => n == n'
  | .fn f a b, .fn f' a' b' => f == f' && eqXs a a' && eqXs b b'
  | _, _ => false
  eqXs : List XV → List XV → Bool
  | [], [] => true
  | a :: r, b :: s => eqX a b && eqXs r s
  | _, _ => false
def insideT (f : Ifc) : Bool := f.toks.all fun x => match x.2.1 with | none => (f.slots.map (·.1)).contains x.1 | some _ => f.objs.contains x.1
def coverO (b : St) (objs : List Nat) : Bool := (someO 0 b.hp).all fun n => b.prot.contains n || objs.contains n
def freshT (b : St) (toks : List (Nat × Option Nat × Bool × Nat)) : Bool := toks.all fun x => decide (x.2.2.2 < b.tk.length) && (b.tk.getD x.2.2.2 (some true)).isNone
def Ifc.pack (P : Program) (f : Ifc) (b st : St) : Option (List D) :=
  match packS P st f.toks f.slots, packO b st f.toks f.objs with
  | some x, some y => if packT P st f.toks && insideT f && nodup (tokMarks st f.toks) && closedO b.hp b.hp && coverO b f.objs && freshT b f.toks && nodup (f.toks.map (·.2.2.2)) && nodup (f.slots.map (·.1)) && nodup f.objs then some (x ++ y) else none
  | _, _ => none
def unS (P : Program) : List (Nat × TypeId) → List D → Nat → List AV → List AV
  | [], _, _, fr => fr
  | (i, t) :: r, ds, k, fr => unS P r ds (k + 1) (fr.set i (match shp P t with | some s => cast P t (.dt s (ds.getD k (.int 0)) (roAps s.ks)) | none => .undef))
def unO : List Nat → List D → Nat → List (Option Ob) → List (Option Ob)
  | [], _, _, hp => hp
  | i :: r, ds, k, hp => unO r ds (k + 1) (hp.set i (match hp.getD i none with
    | some (.cells s _ aps) => some (.cells s (ds.getD k (.int 0)) aps)
    | some (.map kt v _) => some (.map kt v (ds.getD k (.int 0)))
    | none => none))
def unT : List (Nat × Option Nat × Bool × Nat) → St → St
  | [], st => st
  | (i, none, b, m) :: r, st => unT r { st with
      fr := st.fr.set i (match st.fr.getD i .undef with | .dt s d [_] => .dt s d [if b then .arr m else .own m] | a => a), tk := st.tk.set m (some true) }
  | (i, some j, b, m) :: r, st => unT r (setMark st i j m b)
/-- The state b with the data of a way out. -/
def Ifc.un (P : Program) (f : Ifc) (b : St) (ds : List D) : St :=
  unT f.toks { b with fr := unS P f.slots ds 0 b.fr, hp := unO f.objs ds f.slots.length b.hp }

def isExit : Option Nat → Ex → Bool
  | none, .ret => true
  | some a, .exit b => a == b
  | _, _ => false
def exitOf : List (Option Nat × Ifc) → Nat → Ex → Option (Nat × Ifc)
  | [], _, _ => none
  | (o, f) :: r, i, e => if isExit o e = true then some (i, f) else exitOf r (i + 1) e
def exOf : Option Nat → Ex
  | none => .ret
  | some i => .exit i
/-- A loop from its head on. -/
def loopRun (P : Program) (lc : LoopCfg) (b : St) (body : St → (Ex → St → Option R) → Option R) : Nat → List D → Option R
  | 0, _ => none
  | n + 1, ds => body (lc.head.un P b ds) fun e st => match e with
    | .normal => match lc.head.pack P b st with
      | some ds' => loopRun P lc b body n ds'
      | none => none
    | e => match exitOf lc.exits 1 e with
      | some (i, f) => match f.pack P b st with
        | some ds' => some (i, ds')
        | none => none
      | none => none
def outer (st st' : St) : St := { st' with prot := st.prot, protM := st.protM, protS := st.protS, protT := st.protT }
def afterLoop (P : Program) (st b : St) (k : Ex → St → Option R) : List (Option Nat × Ifc) → Nat → R → Option R
  | [], _, _ => none
  | [(o, f)], i, r => if r.1 = i then k (exOf o) (outer st (f.un P b r.2)) else none
  | (o, f) :: l, i, r => if r.1 = i then k (exOf o) (outer st (f.un P b r.2)) else afterLoop P st b k l (i + 1) r

def exec (P : Program) (cfs : FuncId → Nat → FCfg) (fc : FCfg) (env : Env) (n : Nat) : Code → St → (Ex → St → Option R) → Option R
  | .skip, st, k => k .normal st
  | .ret, st, k => k .ret st
  | .exit id, st, k => k (.exit id) st
  | .seq a b, st, k => exec P cfs fc env n a st fun e st' => match e with
    | .normal => exec P cfs fc env n b st' k
    | e => k e st'
  | .block id c, st, k => exec P cfs fc env n c st fun e st' => match e with
    | .exit j => if j == id then k .normal st' else k (.exit j) st'
    | e => k e st'
  | .region id ops draw, st, k => match fc.rcut id with
    | none => stepsD P cfs fc env draw ops.toList st fun st' => k .normal st'
    | some f =>
      let b := base st (notIn (dstsO ops.toList)) (notIn f.objs) f.objs f.toks
      (stepsD P cfs fc env draw ops.toList { st with prot := b.prot, protM := b.protM, protS := b.protS, protT := b.protT } fun st' => match f.pack P b st' with
        | some ds => some (0, ds)
        | none => none).bind fun r => k .normal (outer st (f.un P b r.2))
  | .cond c x y, st, k => match st.ev c with
    | .dt ⟨false, [.bool]⟩ d [.ro] => match fc.cut ((keyOf (.cond c x y)).getD 0) with
      | none => if d.toBool = true then exec P cfs fc env n x st k else exec P cfs fc env n y st k
      | some f =>
        let b := base st (notIn (dsts x ++ dsts y)) (notIn f.objs) f.objs f.toks
        let st1 : St := { st with prot := b.prot, protM := b.protM, protS := b.protS, protT := b.protT }
        let out : Ex → St → Option R := fun e st' => match e with
          | .normal => match f.pack P b st' with
            | some ds => some (0, ds)
            | none => none
          | _ => none
        (if d.toBool = true then exec P cfs fc env n x st1 out else exec P cfs fc env n y st1 out).bind fun r => k .normal (outer st (f.un P b r.2))
    | _ => none
  | .loop c, st, k => match fc.loop ((keyOf c).getD 0) with
    | none => none
    | some lc =>
      let b := base st (isIn lc.keep) (isIn lc.keepO) lc.head.objs lc.head.toks
      match lc.head.pack P b st with
      | some ds => (loopRun P lc b (fun st' k' => exec P cfs fc env n c st' k') n ds).bind fun r => afterLoop P st b k lc.exits 1 r
      | none => none
  | _, _, _ => none

def repA {α : Type} (a : α) : Nat → List α
  | 0 => []
  | n + 1 => a :: repA a n
def putAll {α : Type} (l : List α) : List (Nat × α) → List α
  | [] => l
  | (i, a) :: r => putAll (l.set i a) r
/-- Nothing that is only read is owned. -/
def roOk (ro : List Nat) : Nat → List Ob → Bool
  | _, [] => true
  | p, o :: r => (!ro.contains p || (match o with
    | .cells _ _ aps => aps.all fun
      | .own _ | .arr _ => false
      | _ => true
    | .map _ _ _ => true)) && roOk ro (p + 1) r
def upto : Nat → List Nat
  | 0 => []
  | n + 1 => upto n ++ [n]
def st0 (fc : FCfg) (as : List AV) (obs : List Ob) (n : Nat) : St :=
  { nb := obs.length, tb := fc.ins.length + fc.argArr.length, fr := as.map norm ++ repA .undef (n - as.length), hp := obs.map some ++ repA none n,
    tk := repA (some true) (fc.ins.length + fc.argArr.length) ++ repA none (n + 32), prot := fc.roIn, protM := upto obs.length, protS := [], protT := [] }
def resAt (P : Program) (st : St) (t : TypeId) : ResultVar → AV
  | .tmp i => cast P t (st.fr.getD i .undef)
  | .cell i u => match st.fr.getD i .undef, sh P u with
    | .dt ⟨false, [.x]⟩ _ [.x (.ptr n 0)], some s => match st.hp.getD n none with
      | some (.cells s0 d aps) => if fits s0.ks 0 s then loadC s0 d aps 0 s else .undef
      | _ => .undef
    | _, _ => .undef
/-- The results, and the variables that came, behind the run: in a state of their own. -/
def resList (P : Program) (st : St) : List ResultVar → List TypeId → List AV
  | v :: vs, t :: ts => resAt P st t v :: resList P st vs ts
  | _, _ => []
def finSlots : Nat → List TypeId → List (Nat × TypeId)
  | _, [] => []
  | i, t :: r => (i, t) :: finSlots (i + 1) r
def insToks : Nat → List (Nat × Nat × Bool) → List (Nat × Option Nat × Bool × Nat)
  | _, [] => []
  | q, (p, j, b) :: r => (p, some j, b, q) :: insToks (q + 1) r
def ownToks (m : Nat) : List (Nat × Bool) → List (Nat × Option Nat × Bool × Nat)
  | [] => []
  | (i, b) :: r => (i, none, b, m) :: ownToks m r
def finI (fc : FCfg) (fn : Func) (nobs : Nat) : Ifc :=
  { slots := finSlots 0 fn.resultTypes.toList, objs := (upto nobs).filter (notIn fc.roIn), toks := insToks 0 fc.ins ++ ownToks fc.ins.length fc.own }
def finHp (ro ms : List Nat) : Nat → List Ob → List (Option Ob)
  | _, [] => []
  | p, o :: r => (if ro.contains p then some o else (dropOb ms (some o)).map blank) :: finHp ro ms (p + 1) r
def finB (fc : FCfg) (fn : Func) (obs : List Ob) : St :=
  { nb := obs.length, tb := fc.ins.length + fc.argArr.length, fr := repA .undef fn.resultTypes.size, hp := finHp fc.roIn (upto (fc.ins.length + fc.argArr.length)) 0 obs ++ repA none fn.ntmps,
    tk := repA none (fc.ins.length + fc.argArr.length) ++ repA none (fn.ntmps + 32), prot := fc.roIn, protM := upto obs.length, protS := [], protT := [] }
def finish (P : Program) (fc : FCfg) (fn : Func) (obs : List Ob) (e : Ex) (st : St) : Option R := match e with
  | .exit _ => none
  | _ => if decide (fn.results.size = fn.resultTypes.size) = true then match (finI fc fn obs.length).pack P (finB fc fn obs) { st with fr := resList P st fn.results.toList fn.resultTypes.toList } with
    | some ds => some (0, ds)
    | none => none
    else none
/-- What a function comes to, with so many calls nested in one another and so many rounds of a loop. -/
def run (P : Program) (cfs : FuncId → Nat → FCfg) : Nat → Env
  | 0, _, _, _ => none
  | n + 1, f, as, obs => match P.funcs[f]? with
    | some fn => match fn.body with
      | some c => if roOk (cfs f obs.length).roIn 0 obs && decide (fn.name ≠ "runtime.NumGoroutine") then
          exec P cfs (cfs f obs.length) (run P cfs n) n c (st0 (cfs f obs.length) as obs fn.ntmps) (finish P (cfs f obs.length) fn obs) else none
      | none => none
    | none => none

/-- The loop of that key in a piece of code. -/
def findLoop (i : Nat) : Code → Option Code
  | .seq a b | .cond _ a b => (findLoop i a).or (findLoop i b)
  | .block _ b | .scope b => findLoop i b
  | .loop b => if keyOf b = some i then some b else findLoop i b
  | _ => none
/-- A loop of a function, from its head on. -/
def loopF (P : Program) (cfs : FuncId → Nat → FCfg) (n : Nat) (f key : Nat) (b : St) (k : Nat) (ds : List D) : Option R :=
  match P.funcs[f]? with
  | some fn => match fn.body with
    | some c => match findLoop key c, (cfs f b.nb).loop key with
      | some c', some lc => loopRun P lc b (fun st' k' => exec P cfs (cfs f b.nb) (run P cfs n) n c' st' k') k ds
      | _, _ => none
    | none => none
  | none => none
end Go.Proofs.Ytkimdfpmblhapaa.Va

/- What a state of the interpreter says of a state of the model. -/
namespace Go.Proofs.Ytkimdfpmblhapaa.Va
open Go.RowKit

/-- Whose a block is: nobody's (plain data), a variable's, the tail of a slice's, a row's. -/
inductive Gh where
  | dat
  | ob (n : Nat)
  | tl (m s : Nat)
  | rw (m : Nat)
/-- Where things lie: variables, marks (a slice and the size of its elements), blocks. -/
structure Gho where
  mu : Nat → Nat
  rho : Nat → Value × Nat
  own : Nat → Gh
def Gh.at (h : Gh) (o : Nat) : Prop := match h with
  | .dat => False
  | .ob _ => True
  | .tl _ s => s ≤ o
  | .rw _ => True
/-- A block is that mark's. -/
def Gh.isTk (h : Gh) (m : Nat) : Prop := (∃ s, h = .tl m s) ∨ h = .rw m
/-- The cells that may be written. -/
def Wr (X : Nat → Nat → Prop) (g : Gho) (b o : Nat) : Prop := X b o ∨ (g.own b).at o

/-- A cell reads as data; none of what is read may be written. -/
inductive RL (P : Program) (w : World) (W : Nat → Nat → Prop) : LK → D → Value → Prop where
  | int (k : IntKind) (d : D) : RL P w W (.int k) d (.int k d.toInt)
  | bool (d : D) : RL P w W .bool d (.bool d.toBool)
  | str (d : D) : RL P w W .str d (.string d.toStr)
  | x (d : D) (v : Value) : RL P w W .x d v
  | nil (e : TypeId) (d : D) (h : d.toL = []) : RL P w W (.sl e) d (.slice none 0 0)
  | sl (e : TypeId) (s : Sh) (d : D) (a : Option Addr) (n c b o : Nat) (u : Nat → Nat → Value) (hs : shp P e = some s) (hn : d.toL.length = n) (hc : n ≤ c) (hm : n ≤ 140737488355328)
      (ha : 0 < n → a = some ⟨b, o, none⟩) (hcell : ∀ i j, i < n → j < s.ks.length → w.cell? ⟨b, o + (i * s.ks.length + j), none⟩ = some (u i j) ∧ ¬ W b (o + (i * s.ks.length + j)))
      (hr : ∀ i j k, i < n → s.ks[j]? = some k → RL P w W k (s.at (d.toL.getD i (.int 0)) j) (u i j)) : RL P w W (.sl e) d (.slice a n c)
def Stay (w : World) (W : Nat → Nat → Prop) (w' : World) (W' : Nat → Nat → Prop) : Prop :=
  ∀ b o v, w.cell? ⟨b, o, none⟩ = some v → ¬ W b o → w'.cell? ⟨b, o, none⟩ = some v ∧ ¬ W' b o
theorem RL.mono {P : Program} {w w' : World} {W W' : Nat → Nat → Prop} (hs : Stay w W w' W') {k : LK} {d : D} {v : Value} (h : RL P w W k d v) : RL P w' W' k d v := by
  induction h with
  | int k d => exact .int k d
  | bool d => exact .bool d
  | str d => exact .str d
  | x d v => exact .x d v
  | nil e d h => exact .nil e d h
  | sl e s d a n c b o u h1 h2 h3 h4 h5 h6 _ ih =>
    exact .sl e s d a n c b o u h1 h2 h3 h4 h5 (fun i j hi hj => hs _ _ _ (h6 i j hi hj).1 (h6 i j hi hj).2) ih
theorem Stay.refl (w : World) (W : Nat → Nat → Prop) : Stay w W w W := fun _ _ _ h hn => ⟨h, hn⟩
theorem Stay.trans {w w1 w2 : World} {W W1 W2 : Nat → Nat → Prop} (h : Stay w W w1 W1) (k : Stay w1 W1 w2 W2) : Stay w W w2 W2 := fun b o v hc hn => by
  obtain ⟨h1, h2⟩ := h b o v hc hn
  exact k b o v h1 h2

/-- Addresses, maps, functions. -/
inductive RX (g : Gho) (ok : Nat → Bool) : XV → Value → Prop where
  | nilp : RX g ok .nil (.pointer none)
  | nilm : RX g ok .nil (.map none)
  | nilf : RX g ok .nil .nilFunc
  | ptr (n off : Nat) (h : ok n = true) : RX g ok (.ptr n off) (.pointer (some ⟨g.mu n, off, none⟩))
  | mp (n : Nat) (h : ok n = true) : RX g ok (.mp n) (.map (some (g.mu n)))
  | fn (f : FuncId) (a b : List XV) (va vb : Array Value) (ha : a.length = va.size) (hb : b.length = vb.size)
      (h1 : ∀ (i : Nat) (x : XV) (v : Value), a[i]? = some x → va[i]? = some v → RX g ok x v) (h2 : ∀ (i : Nat) (x : XV) (v : Value), b[i]? = some x → vb[i]? = some v → RX g ok x v) : RX g ok (.fn f a b) (.func (.func f) va vb)
def St.has (st : St) (n : Nat) : Bool := (st.hp.getD n none).isSome

/-- A row of its own reads as data. -/
def RRow (P : Program) (g : Gho) (w : World) (W : Nat → Nat → Prop) (m : Nat) (k : LK) (d : D) (v : Value) : Prop :=
  ∃ e s a n c b o, ∃ u : Nat → Nat → Value, k = .sl e ∧ shp P e = some s ∧ v = .slice a n c ∧ g.rho m = (v, s.ks.length) ∧ d.toL.length = n ∧ n ≤ c ∧ n ≤ 140737488355328 ∧ (0 < n → a = some ⟨b, o, none⟩ ∧ g.own b = .rw m) ∧
    (∀ i j, i < n → j < s.ks.length → w.cell? ⟨b, o + (i * s.ks.length + j), none⟩ = some (u i j)) ∧
    (∀ i j k, i < n → s.ks[j]? = some k → RL P w W k (s.at (d.toL.getD i (.int 0)) j) (u i j))
def knownTk (st : St) (m : Nat) : Prop := (st.tk.getD m none).isSome = true
/-- One cell with its annotation. -/
def RA (P : Program) (X : Nat → Nat → Prop) (g : Gho) (st : St) (w : World) (k : LK) (d : D) (ap : Ap) (v : Value) : Prop :=
  v.oneCell' = true ∧ match ap with
  | .ro => RL P w (Wr X g) k d v
  | .nl => RL P w (Wr X g) k d v ∧ v = .slice none 0 0
  | .full => RL P w (Wr X g) k d v ∧ ∃ a n, v = .slice a n n
  | .own m => RL P w (Wr X g) k d v ∧ knownTk st m ∧ (liveTk st m = true → (∀ b, g.own b ≠ .rw m) ∧ ∃ e s, k = .sl e ∧ shp P e = some s ∧ g.rho m = (v, s.ks.length))
  | .arr m => knownTk st m ∧ (liveTk st m = true → (∀ b s, g.own b ≠ .tl m s) ∧ RRow P g w (Wr X g) m k d v)
  | .dead => True
  | .x xv => RX g st.has xv v
/-- The cells of a value or a variable. -/
structure RC (P : Program) (X : Nat → Nat → Prop) (g : Gho) (st : St) (w : World) (s : Sh) (d : D) (aps : List Ap) (cs : List Value) : Prop where
  len : cs.length = s.ks.length
  lap : aps.length = s.ks.length
  at_ : ∀ j k, s.ks[j]? = some k → RA P X g st w k (s.at d j) (aps.getD j .dead) (cs.getD j undef)
def RVb (P : Program) (X : Nat → Nat → Prop) (g : Gho) (st : St) (w : World) : AV → Value → Prop
  | .undef, _ => True
  | .no, v => v = undef
  | .nilsl, v => v = .slice none 0 0
  | .dt s d aps, v => isAggV v = s.agg ∧ RC P X g st w s d aps v.cells.toList
  | .ip s d off, v => s.plain = true ∧ ∃ b o, v = .pointer (some ⟨b, o + off, none⟩) ∧ ∀ j k, s.ks[j]? = some k → ∃ u, w.cell? ⟨b, o + j, none⟩ = some u ∧ ¬ Wr X g b (o + j) ∧ RL P w (Wr X g) k (s.at d j) u
  | .ep m s d off, v => knownTk st m ∧ (liveTk st m = true → s.plain = true ∧ ∃ b o, v = .pointer (some ⟨b, o + off, none⟩) ∧ g.own b = .rw m ∧ ∀ j k, s.ks[j]? = some k → ∃ u, w.cell? ⟨b, o + j, none⟩ = some u ∧ RL P w (Wr X g) k (s.at d j) u)
  | .tup _, _ => False
def RV (P : Program) (X : Nat → Nat → Prop) (g : Gho) (st : St) (w : World) : AV → Value → Prop
  | .tup l, v => ∃ vs : Array Value, v = .tuple vs ∧ ∀ (i : Nat) (a : AV), l[i]? = some a → ∃ u, vs[i]? = some u ∧ RVb P X g st w a u
  | a, v => RVb P X g st w a v
/-- A variable. -/
def RO (P : Program) (X : Nat → Nat → Prop) (g : Gho) (st : St) (w : World) (n : Nat) : Ob → Prop
  | .cells s d aps => ∃ cs e, w.heap[g.mu n]? = some (.cells cs e (0, 0)) ∧ g.own (g.mu n) = .ob n ∧ (s.agg = false → s.ks.length = 1) ∧ RC P X g st w s d aps cs.toList
  | .map kt vt d => ∃ (es : Array MapEntry) (clock : Nat) (k : LK) (sv : Sh), w.heap[g.mu n]? = some (.map es clock) ∧ g.own (g.mu n) = .ob n ∧ shp P kt = some ⟨false, [k]⟩ ∧ shp P vt = some sv ∧ es.size = d.toL.length ∧
      ∀ (i : Nat) (p : D), d.toL[i]? = some p → ∃ q : MapEntry, es[i]? = some q ∧ RL P w (Wr X g) k (p.cell 0) q.key ∧ isAggV q.val = sv.agg ∧ RC P X g st w sv (p.cell 1) (roAps sv.ks) q.val.cells.toList
/-- A mark that is alive. -/
def RT (g : Gho) (w : World) (m : Nat) : Prop :=
  ∃ a n c, (g.rho m).1 = .slice a n c ∧ n ≤ c ∧
    ((c = n ∧ ∀ b, g.own b ≠ .rw m) ∨ ∃ b cs e, a = some ⟨b, 0, none⟩ ∧ w.heap[b]? = some (.cells cs e (0, 0)) ∧ c * (g.rho m).2 ≤ cs.size ∧
      (g.own b = .tl m (n * (g.rho m).2) ∨ g.own b = .rw m))
/-- Blocks that stay as they are. -/
def Gh.fx (pr prT : List Nat) : Gh → Prop
  | .dat => True
  | .ob n => n ∈ pr
  | .tl m _ => m ∈ prT
  | .rw m => m ∈ prT
/-- What has become of the world since the call (the loop) began. -/
structure Fr (w0 : World) (g0 : Gho) (nb : Nat) (pr prM prT : List Nat) (g : Gho) (w : World) : Prop where
  os : w.os = w0.os
  tape : w.tape = w0.tape
  output : w.output = w0.output
  size : w0.heap.size ≤ w.heap.size
  old : ∀ b, b < w0.heap.size → (g0.own b).fx pr prT → w.heap[b]? = w0.heap[b]? ∧ g.own b = g0.own b
  lt : ∀ b, g.own b ≠ .dat → b < w.heap.size
  mu : ∀ n, (n < nb ∨ n ∈ prM) → g.mu n = g0.mu n
  tl : ∀ b m s, b < w0.heap.size → g0.own b = .tl m s → (∀ o v, o < s → w0.cell? ⟨b, o, none⟩ = some v → w.cell? ⟨b, o, none⟩ = some v) ∧ (g.own b = .dat ∨ ∃ m' s', g.own b = .tl m' s' ∧ s ≤ s')
  rho : ∀ m, m ∈ prT → g.rho m = g0.rho m
  back : ∀ b m, m ∈ prT → (g.own b).isTk m → g.own b = g0.own b
structure Rel (P : Program) (X : Nat → Nat → Prop) (w0 : World) (g0 g : Gho) (st : St) (a : Act) (w : World) : Prop where
  dfr : a.defers = []
  siz : a.tmps.size = st.fr.length
  slot : ∀ i, RV P X g st w (st.fr.getD i .undef) (a.tmps.getD i undef)
  objs : ∀ n o, st.hp.getD n none = some o → RO P X g st w n o
  toks : ∀ m, liveTk st m = true → RT g w m
  fr : Fr w0 g0 st.nb st.prot st.protM st.protT g w
  xlt : ∀ b o, X b o → b < w0.heap.size
  xown : ∀ b o, X b o → g.own b = .dat
  tkl : ∀ b m, (g.own b).isTk m → liveTk st m = true
  ptl : ∀ m, m ∈ st.protT → liveTk st m = true

/-- From one state to another: what may have been read stays. -/
structure To (P : Program) (X : Nat → Nat → Prop) (g : Gho) (st : St) (w : World) (g' : Gho) (st' : St) (w' : World) : Prop where
  stay : Stay w (Wr X g) w' (Wr X g')
  mu : ∀ n, st.has n = true → g'.mu n = g.mu n
  has : ∀ n, st.has n = true → st'.has n = true
  known : ∀ m, knownTk st m → knownTk st' m
  live : ∀ m, knownTk st m → liveTk st' m = true → liveTk st m = true ∧ g'.rho m = g.rho m
  row : ∀ b m, g.own b = .rw m → knownTk st m → liveTk st' m = true → w'.heap[b]? = w.heap[b]? ∧ g'.own b = .rw m
  back : ∀ b m, knownTk st m → liveTk st' m = true → (g'.own b).isTk m → g'.own b = g.own b
section
variable {P : Program} {X : Nat → Nat → Prop} {g g' : Gho} {st st' : St} {w w' : World}
theorem RX.to (h : To P X g st w g' st' w') {x : XV} {v : Value} (hx : RX g st.has x v) : RX g' st'.has x v := by
  induction hx with
  | nilp => exact .nilp
  | nilm => exact .nilm
  | nilf => exact .nilf
  | ptr n off hn => rw [← h.mu n hn]; exact .ptr n off (h.has n hn)
  | mp n hn => rw [← h.mu n hn]; exact .mp n (h.has n hn)
  | fn f a b va vb ha hb _ _ i1 i2 => exact .fn f a b va vb ha hb i1 i2
theorem cell_block {w w' : World} {b o : Nat} (h : w'.heap[b]? = w.heap[b]?) : w'.cell? ⟨b, o, none⟩ = w.cell? ⟨b, o, none⟩ := by simp [World.cell?, h]
theorem RRow.to (h : To P X g st w g' st' w') {m : Nat} {k : LK} {d : D} {v : Value} (hk : knownTk st m) (hl : liveTk st' m = true) (hx : RRow P g w (Wr X g) m k d v) : RRow P g' w' (Wr X g') m k d v := by
  obtain ⟨e, s, a, n, c, b, o, u, h1, h2, h3, h4, h5, h6, h7, h8, h9, h10⟩ := hx
  refine ⟨e, s, a, n, c, b, o, u, h1, h2, h3, (h.live m hk hl).2.trans h4, h5, h6, h7, fun hn => ⟨(h8 hn).1, (h.row b m (h8 hn).2 hk hl).2⟩, fun i j hi hj => ?_, fun i j k hi hj => (h10 i j k hi hj).mono h.stay⟩
  rw [cell_block (h.row b m (h8 (by omega)).2 hk hl).1]
  exact h9 i j hi hj
theorem RA.to (h : To P X g st w g' st' w') {k : LK} {d : D} {ap : Ap} {v : Value} (hx : RA P X g st w k d ap v) : RA P X g' st' w' k d ap v := by
  refine ⟨hx.1, ?_⟩
  have h2 := hx.2
  cases ap with
  | ro => exact h2.mono h.stay
  | nl => exact ⟨h2.1.mono h.stay, h2.2⟩
  | full => exact ⟨h2.1.mono h.stay, h2.2⟩
  | own m =>
    refine ⟨h2.1.mono h.stay, h.known m h2.2.1, fun hl => ?_⟩
    obtain ⟨h3, h4⟩ := h.live m h2.2.1 hl
    obtain ⟨h8, e, s, h5, h6, h7⟩ := h2.2.2 h3
    exact ⟨fun b hb => h8 b ((h.back b m h2.2.1 hl (.inr hb)).symm.trans hb), e, s, h5, h6, h4.trans h7⟩
  | arr m => exact ⟨h.known m h2.1, fun hl => ⟨fun b s hb => (h2.2 (h.live m h2.1 hl).1).1 b s ((h.back b m h2.1 hl (.inl ⟨s, hb⟩)).symm.trans hb), (h2.2 (h.live m h2.1 hl).1).2.to h h2.1 hl⟩⟩
  | dead => trivial
  | x xv => exact RX.to h h2
theorem RC.to (h : To P X g st w g' st' w') {s : Sh} {d : D} {aps : List Ap} {cs : List Value} (hx : RC P X g st w s d aps cs) : RC P X g' st' w' s d aps cs :=
  ⟨hx.len, hx.lap, fun j k hj => (hx.at_ j k hj).to h⟩
theorem RVb.to (h : To P X g st w g' st' w') {a : AV} {v : Value} (hx : RVb P X g st w a v) : RVb P X g' st' w' a v := by
  cases a with
  | undef => trivial
  | no => exact hx
  | nilsl => exact hx
  | dt s d aps => exact ⟨hx.1, hx.2.to h⟩
  | ip s d off =>
    obtain ⟨hpl, b, o, h1, h2⟩ := hx
    refine ⟨hpl, b, o, h1, fun j k hj => ?_⟩
    obtain ⟨u, h3, h4, h5⟩ := h2 j k hj
    obtain ⟨h6, h7⟩ := h.stay _ _ _ h3 h4
    exact ⟨u, h6, h7, h5.mono h.stay⟩
  | ep m s d off =>
    refine ⟨h.known m hx.1, fun hl => ?_⟩
    obtain ⟨hl0, _⟩ := h.live m hx.1 hl
    obtain ⟨hpl, b, o, h1, h2, h3⟩ := hx.2 hl0
    obtain ⟨h4, h5⟩ := h.row b m h2 hx.1 hl
    refine ⟨hpl, b, o, h1, h5, fun j k hj => ?_⟩
    obtain ⟨u, h6, h7⟩ := h3 j k hj
    exact ⟨u, (cell_block h4).trans h6, h7.mono h.stay⟩
  | tup l => exact hx
theorem RV.to (h : To P X g st w g' st' w') {a : AV} {v : Value} (hx : RV P X g st w a v) : RV P X g' st' w' a v := by
  cases a with
  | tup l =>
    obtain ⟨vs, h1, h2⟩ := hx
    refine ⟨vs, h1, fun i a hi => ?_⟩
    obtain ⟨u, h3, h4⟩ := h2 i a hi
    exact ⟨u, h3, h4.to h⟩
  | undef => trivial
  | no => exact hx
  | nilsl => exact RVb.to (a := .nilsl) h hx
  | dt s d aps => exact RVb.to (a := .dt s d aps) h hx
  | ip s d off => exact RVb.to (a := .ip s d off) h hx
  | ep m s d off => exact RVb.to (a := .ep m s d off) h hx
theorem RO.to (h : To P X g st w g' st' w') {n : Nat} {o : Ob} (hn : st.has n = true) (hb : w'.heap[g.mu n]? = w.heap[g.mu n]?) (ho : g'.own (g.mu n) = g.own (g.mu n)) (hx : RO P X g st w n o) : RO P X g' st' w' n o := by
  have hm := h.mu n hn
  cases o with
  | cells s d aps =>
    obtain ⟨cs, e, h1, h2, h10, h3⟩ := hx
    exact ⟨cs, e, by rw [hm, hb]; exact h1, by rw [hm, ho]; exact h2, h10, h3.to h⟩
  | map kt vt d =>
    obtain ⟨es, clock, k, sv, h1, h2, h3, h4, h5, h6⟩ := hx
    refine ⟨es, clock, k, sv, by rw [hm, hb]; exact h1, by rw [hm, ho]; exact h2, h3, h4, h5, fun i p hp => ?_⟩
    obtain ⟨q, h7, h8, h9, h10⟩ := h6 i p hp
    exact ⟨q, h7, h8.mono h.stay, h9, h10.to h⟩
theorem RT.to' {m : Nat} (hr : g'.rho m = g.rho m) (hk : ∀ b, g'.own b = .rw m → g.own b = .rw m) (hb : ∀ b, ((∃ s, g.own b = .tl m s) ∨ g.own b = .rw m) → w'.heap[b]? = w.heap[b]? ∧ g'.own b = g.own b) (hx : RT g w m) : RT g' w' m := by
  obtain ⟨a, n, c, h1, h2, h3⟩ := hx
  refine ⟨a, n, c, by rw [hr]; exact h1, h2, ?_⟩
  rcases h3 with h3 | ⟨b, cs, e, h3, h4, h5, h6⟩
  · exact .inl ⟨h3.1, fun b hb => h3.2 b (hk b hb)⟩
  · have := hb b (by rcases h6 with h6 | h6; exact .inl ⟨_, h6⟩; exact .inr h6)
    exact .inr ⟨b, cs, e, h3, by rw [this.1]; exact h4, by rw [hr]; exact h5, by rw [hr, this.2]; exact h6⟩
theorem RT.to {m : Nat} (hr : g'.rho m = g.rho m) (hk : ∀ b, g'.own b = .rw m → g.own b = .rw m) (hb : ∀ b, g.own b ≠ .dat → (∀ n, g.own b ≠ .ob n) → w'.heap[b]? = w.heap[b]? ∧ g'.own b = g.own b) (hx : RT g w m) : RT g' w' m :=
  hx.to' hr hk (fun b h => hb b (by rcases h with ⟨_, h⟩ | h <;> rw [h] <;> simp) (fun n => by rcases h with ⟨_, h⟩ | h <;> rw [h] <;> simp))
end

/-- The world has more blocks, and some orders drawn; nothing else. -/
theorem stay_below {X : Nat → Nat → Prop} {g : Gho} {w w' : World} (h : Below w.heap.size w w') : Stay w (Wr X g) w' (Wr X g) := fun b o v hc hn =>
  ⟨(cell_block (h.block b (World.block_lt_of_cell? w ⟨b, o, none⟩ hc))).trans hc, hn⟩
theorem To.below {P : Program} {X : Nat → Nat → Prop} {g : Gho} {st : St} {w w' : World} (h : Below w.heap.size w w') (hlt : ∀ b, g.own b ≠ .dat → b < w.heap.size) : To P X g st w g st w' :=
  ⟨stay_below h, fun _ _ => rfl, fun _ h => h, fun _ h => h, fun _ _ h => ⟨h, rfl⟩, fun b m hb _ _ => ⟨h.block b (hlt b (by rw [hb]; simp)), hb⟩, fun _ _ _ _ _ => rfl⟩
theorem Fr.below {w0 : World} {g0 : Gho} {nb : Nat} {pr prM prT : List Nat} {g : Gho} {w w' : World} (hf : Fr w0 g0 nb pr prM prT g w) (h : Below w.heap.size w w') : Fr w0 g0 nb pr prM prT g w' where
  os := h.os.trans hf.os
  tape := h.tape.trans hf.tape
  output := h.output.trans hf.output
  size := Nat.le_trans hf.size h.size
  old := fun b hb h0 => ⟨(h.block b (Nat.lt_of_lt_of_le hb hf.size)).trans (hf.old b hb h0).1, (hf.old b hb h0).2⟩
  lt := fun b hb => Nat.lt_of_lt_of_le (hf.lt b hb) h.size
  mu := hf.mu
  tl := fun b m s hb h0 => ⟨fun o v ho hv => (cell_block (h.block b (Nat.lt_of_lt_of_le hb hf.size))).trans ((hf.tl b m s hb h0).1 o v ho hv), (hf.tl b m s hb h0).2⟩
  rho := hf.rho
  back := hf.back
theorem Rel.below {P : Program} {X : Nat → Nat → Prop} {w0 : World} {g0 g : Gho} {st : St} {a : Act} {w w' : World} (hr : Rel P X w0 g0 g st a w) (h : Below w.heap.size w w') : Rel P X w0 g0 g st a w' := by
  have ht : To P X g st w g st w' := .below h hr.fr.lt
  have hob : ∀ n o, st.hp.getD n none = some o → g.own (g.mu n) ≠ .dat := fun n o ho => by
    have := hr.objs n o ho
    cases o with
    | cells s d aps => obtain ⟨_, _, _, h2, _⟩ := this; rw [h2]; simp
    | map kt vt d => obtain ⟨_, _, _, _, _, h2, _⟩ := this; rw [h2]; simp
  exact ⟨hr.dfr, hr.siz, fun i => (hr.slot i).to ht, fun n o ho => (hr.objs n o ho).to ht (by unfold St.has; rw [ho]; rfl) (h.block _ (hr.fr.lt _ (hob n o ho))) rfl,
    fun m hm => (hr.toks m hm).to rfl (fun _ h => h) (fun b hb _ => ⟨h.block b (hr.fr.lt b hb), rfl⟩), hr.fr.below h, hr.xlt, hr.xown, hr.tkl, hr.ptl⟩
/-- A slot gets a value. -/
theorem getD_set {α : Type} (l : List α) (i j : Nat) (x z : α) : (l.set i x).getD j z = if i = j ∧ j < l.length then x else l.getD j z := by
  simp only [List.getD_eq_getElem?_getD, List.getElem?_set]
  by_cases h : i = j
  · subst h
    by_cases h2 : i < l.length
    · simp [h2]
    · simp [h2]
  · simp [h]
theorem agetD_set {α : Type} (l : Array α) (i j : Nat) (x z : α) : (l.setIfInBounds i x).getD j z = if i = j ∧ j < l.size then x else l.getD j z := by
  simp only [Array.getD_eq_getD_getElem?, Array.getElem?_setIfInBounds]
  by_cases h : i = j
  · subst h
    by_cases h2 : i < l.size
    · simp [h2]
    · simp [h2]
  · simp [h]
/-- Only slots have changed. -/
theorem To.same {P : Program} {X : Nat → Nat → Prop} {g : Gho} {st st' : St} {w : World} (h1 : st'.hp = st.hp) (h2 : st'.tk = st.tk) : To P X g st w g st' w := by
  have hk : ∀ m, knownTk st' m ↔ knownTk st m := fun m => by unfold knownTk; rw [h2]
  have hl : ∀ m, liveTk st' m = liveTk st m := fun m => by unfold liveTk; rw [h2]
  have hh : ∀ n, st'.has n = st.has n := fun n => by unfold St.has; rw [h1]
  exact ⟨Stay.refl _ _, fun _ _ => rfl, fun n hn => by rw [hh]; exact hn, fun m hm => (hk m).2 hm, fun m _ hm => ⟨by rw [← hl]; exact hm, rfl⟩, fun b m hb _ _ => ⟨rfl, hb⟩, fun _ _ _ _ _ => rfl⟩
theorem St.put_hp (st : St) (dst : Option Tmp) (x : AV) : (st.put dst x).hp = st.hp := by cases dst <;> rfl
theorem St.put_tk (st : St) (dst : Option Tmp) (x : AV) : (st.put dst x).tk = st.tk := by cases dst <;> rfl
theorem St.put_nb (st : St) (dst : Option Tmp) (x : AV) : (st.put dst x).nb = st.nb := by cases dst <;> rfl
theorem St.put_prot (st : St) (dst : Option Tmp) (x : AV) : (st.put dst x).prot = st.prot := by cases dst <;> rfl
theorem St.put_protM (st : St) (dst : Option Tmp) (x : AV) : (st.put dst x).protM = st.protM := by cases dst <;> rfl
theorem St.put_protT (st : St) (dst : Option Tmp) (x : AV) : (st.put dst x).protT = st.protT := by cases dst <;> rfl
/-- The same variables and marks; slots that say no more than is so. -/
theorem Rel.same {P : Program} {X : Nat → Nat → Prop} {w0 : World} {g0 g : Gho} {st st' : St} {a a' : Act} {w : World} (hr : Rel P X w0 g0 g st a w) (h1 : st'.hp = st.hp) (h2 : st'.tk = st.tk) (h3 : st'.nb = st.nb) (h4 : st'.prot = st.prot) (h5 : st'.protM = st.protM) (h6 : st'.protT = st.protT)
    (hd : a'.defers = []) (hs : a'.tmps.size = st'.fr.length) (hv : ∀ i, RV P X g st w (st'.fr.getD i .undef) (a'.tmps.getD i undef)) : Rel P X w0 g0 g st' a' w := by
  have ht : To P X g st w g st' w := .same h1 h2
  refine ⟨hd, hs, fun i => (hv i).to ht, fun n o ho => ?_, fun m hm => ?_, h3 ▸ h4 ▸ h5 ▸ h6 ▸ hr.fr, hr.xlt, hr.xown, fun b m hb => by
    have := hr.tkl b m hb
    unfold liveTk at this ⊢
    rwa [h2], fun m hm => by
    rw [h6] at hm
    have := hr.ptl m hm
    unfold liveTk at this ⊢
    rwa [h2]⟩
  · rw [h1] at ho
    exact (hr.objs n o ho).to ht (by unfold St.has; rw [ho]; rfl) rfl rfl
  · refine hr.toks m ?_
    unfold liveTk at hm ⊢
    rwa [h2] at hm
theorem norm_rv {P : Program} {X : Nat → Nat → Prop} {g : Gho} {st : St} {w : World} {x : AV} {v : Value} (h : RV P X g st w x v) : RV P X g st w (norm x) v := by
  unfold norm
  split
  · rename_i d ap
    obtain ⟨h1, h2, h3, h4⟩ := h
    refine ⟨h1, h2, h3, fun j k hj => ?_⟩
    match j, hj with
    | 0, hj =>
      simp at hj
      subst hj
      have h5 := h4 0 .bool rfl
      refine ⟨h5.1, ?_⟩
      have h6 := h5.2
      have hrl : ∀ u, RL P w (Wr X g) .bool (Sh.at ⟨false, [.bool]⟩ d 0) u → RL P w (Wr X g) .bool (Sh.at ⟨false, [.bool]⟩ (.bool d.toBool) 0) u := fun u hu => by
        cases hu
        exact .bool (.bool d.toBool)
      revert h6
      generalize ap.getD 0 .dead = q
      intro h6
      cases q with
      | ro => exact hrl _ h6
      | nl => exact ⟨hrl _ h6.1, h6.2⟩
      | full => exact ⟨hrl _ h6.1, h6.2⟩
      | own m => exact ⟨hrl _ h6.1, h6.2⟩
      | arr m =>
        refine ⟨h6.1, fun hl => ⟨(h6.2 hl).1, ?_⟩⟩
        obtain ⟨e, s, a, n, c, b, o, u, hk, _⟩ := (h6.2 hl).2
        cases hk
      | dead => trivial
      | x xv => exact h6
    | j + 1, hj => simp at hj
  · exact h
theorem Rel.put {P : Program} {X : Nat → Nat → Prop} {w0 : World} {g0 g : Gho} {st : St} {a : Act} {w : World} (hr : Rel P X w0 g0 g st a w) (dst : Option Tmp) {x : AV} {v : Value} (hx : RV P X g st w x v) : Rel P X w0 g0 g (st.put dst x) (a.put dst v) w := by
  refine hr.same (st.put_hp dst x) (st.put_tk dst x) (st.put_nb dst x) (st.put_prot dst x) (st.put_protM dst x) (st.put_protT dst x) ?_ ?_ (fun i => ?_)
  · cases dst <;> exact hr.dfr
  · cases dst with
    | none => exact hr.siz
    | some d => simpa [St.put, Act.put] using hr.siz
  · cases dst with
    | none => exact hr.slot i
    | some d =>
      show RV P X g st w ((st.fr.set d (norm x)).getD i .undef) ((a.tmps.setIfInBounds d v).getD i undef)
      rw [getD_set, agetD_set, hr.siz]
      split
      · exact norm_rv hx
      · exact hr.slot i
/-- Operands. -/
theorem Rel.ev {P : Program} {X : Nat → Nat → Prop} {w0 : World} {g0 g : Gho} {st : St} {a : Act} {w : World} (hr : Rel P X w0 g0 g st a w) (x : Operand) : RV P X g st w (st.ev x) (a.eval x) := by
  cases x with
  | tmp t => exact hr.slot t
  | global _ => trivial
  | func f =>
    show RV P X g st w (xv (.fn f [] [])) (.func (.func f) #[] #[])
    refine ⟨rfl, rfl, rfl, fun j k hj => ?_⟩
    match j, hj with
    | 0, _ => exact ⟨rfl, RX.fn f [] [] #[] #[] rfl rfl (fun i x v h => by simp at h) (fun i x v h => by simp at h)⟩
    | j + 1, hj => simp [xsh] at hj
  | const v =>
    show RV P X g st w (ofConst v) v
    unfold ofConst
    split
    · rename_i k n
      refine ⟨rfl, rfl, rfl, fun j k' hj => ?_⟩
      match j, hj with
      | 0, hj => simp at hj; subst hj; exact ⟨rfl, RL.int k (.int n)⟩
      | j + 1, hj => simp at hj
    · rename_i b
      refine ⟨rfl, rfl, rfl, fun j k' hj => ?_⟩
      match j, hj with
      | 0, hj => simp at hj; subst hj; exact ⟨rfl, RL.bool (.bool b)⟩
      | j + 1, hj => simp at hj
    · rename_i s
      refine ⟨rfl, rfl, rfl, fun j k' hj => ?_⟩
      match j, hj with
      | 0, hj => simp at hj; subst hj; exact ⟨rfl, RL.str (.str s)⟩
      | j + 1, hj => simp at hj
    · rfl
    · refine ⟨rfl, rfl, rfl, fun j k' hj => ?_⟩
      match j, hj with
      | 0, _ => exact ⟨rfl, RX.nilp⟩
      | j + 1, hj => simp [xsh] at hj
    · refine ⟨rfl, rfl, rfl, fun j k' hj => ?_⟩
      match j, hj with
      | 0, _ => exact ⟨rfl, RX.nilm⟩
      | j + 1, hj => simp [xsh] at hj
    · refine ⟨rfl, rfl, rfl, fun j k' hj => ?_⟩
      match j, hj with
      | 0, _ => exact ⟨rfl, RX.nilf⟩
      | j + 1, hj => simp [xsh] at hj
    · refine ⟨rfl, rfl, rfl, fun j k' hj => ?_⟩
      match j, hj with
      | 0, _ => exact ⟨rfl, RX.fn _ [] [] #[] #[] rfl rfl (fun i x v h => by simp at h) (fun i x v h => by simp at h)⟩
      | j + 1, hj => simp [xsh] at hj
    · trivial
end Go.Proofs.Ytkimdfpmblhapaa.Va

/- The single operations. -/
namespace Go.Proofs.Ytkimdfpmblhapaa.Va
open Go.RowKit

section
variable {P : Program} {X : Nat → Nat → Prop} {w0 : World} {g0 g g' : Gho} {st st' : St} {a : Act} {w w' : World}

/-- The operation goes well, and leads to that state. -/
def Does (P : Program) (X : Nat → Nat → Prop) (w0 : World) (g0 : Gho) (o : Oper) (st' : St) (a : Act) (w : World) : Prop :=
  ∀ (K : Act → World → Prop) (Q : Exit → Act → World → Prop), (∀ g' a' w', Rel P X w0 g0 g' st' a' w' → K a' w') → o.wp P a w K Q
theorem does_value {o : Oper} {st1 : St} (hr : Rel P X w0 g0 g st1 a w') {x : AV} {v : Value} (hx : RV P X g st1 w' x v) (h : (execOp a.eval o).run P w = .ok (.value v) w') : Does P X w0 g0 o (st1.put o.dst x) a w := by
  intro K Q hK
  unfold Oper.wp
  rw [h, Oper.upon_value]
  exact hK g _ _ (hr.put o.dst hx)
theorem does_skip {o : Oper} {st1 : St} (hr : Rel P X w0 g0 g st1 a w') (h : (execOp a.eval o).run P w = .ok .skip w') : Does P X w0 g0 o (st1.put o.dst .undef) a w := by
  intro K Q hK
  unfold Oper.wp
  rw [h, Oper.upon_skip]
  exact hK g _ _ (hr.put o.dst trivial)

/-! Values of one cell. -/
theorem one_cell {k : LK} {d : D} {ap : Ap} {v : Value} (h : RV P X g st w (.dt ⟨false, [k]⟩ d [ap]) v) : RA P X g st w k d ap v := by
  obtain ⟨h1, h2, _, h4⟩ := h
  have h5 := h4 0 k rfl
  cases v with
  | agg cs => simp [isAggV] at h1
  | _ => exact h5
theorem mk_cell {k : LK} {d : D} {ap : Ap} {v : Value} (h : RA P X g st w k d ap v) : RV P X g st w (.dt ⟨false, [k]⟩ d [ap]) v := by
  cases v with
  | agg cs => have := h.1; simp [Value.oneCell'] at this
  | _ =>
    refine ⟨rfl, rfl, rfl, fun j k' hj => ?_⟩
    match j, hj with
    | 0, hj => simp at hj; subst hj; exact h
    | j + 1, hj => simp at hj
theorem rv_int {k : IntKind} {d : D} {v : Value} (h : RV P X g st w (.dt ⟨false, [.int k]⟩ d [.ro]) v) : v = .int k d.toInt := by
  have := (one_cell h).2; cases this; rfl
theorem rv_bool {d : D} {v : Value} (h : RV P X g st w (.dt ⟨false, [.bool]⟩ d [.ro]) v) : v = .bool d.toBool := by
  have := (one_cell h).2; cases this; rfl
theorem rv_str {d : D} {v : Value} (h : RV P X g st w (.dt ⟨false, [.str]⟩ d [.ro]) v) : v = .string d.toStr := by
  have := (one_cell h).2; cases this; rfl
theorem rv_x {d : D} {x : XV} {v : Value} (h : RV P X g st w (.dt ⟨false, [.x]⟩ d [.x x]) v) : RX g st.has x v := (one_cell h).2
theorem mk_int (k : IntKind) (d : D) : RV P X g st w (sc (.int k) d) (.int k d.toInt) := mk_cell ⟨rfl, .int k d⟩
theorem mk_bool (d : D) : RV P X g st w (sc .bool d) (.bool d.toBool) := mk_cell ⟨rfl, .bool d⟩
theorem mk_str (d : D) : RV P X g st w (sc .str d) (.string d.toStr) := mk_cell ⟨rfl, .str d⟩
theorem RX.one {x : XV} {v : Value} {ok : Nat → Bool} (h : RX g ok x v) : v.oneCell' = true := by cases h <;> rfl
theorem mk_x {x : XV} {v : Value} (h : RX g st.has x v) : RV P X g st w (xv x) v := mk_cell ⟨h.one, h⟩
/-- A slice of plain data, whatever else is known of it. -/
theorem data_rl {k : LK} {d : D} {ap : Ap} {v : Value} (hd : dataAp ap = true) (h : RA P X g st w k d ap v) : RL P w (Wr X g) k d v := by
  have h2 := h.2
  cases ap with
  | ro => exact h2
  | nl => exact h2.1
  | full => exact h2.1
  | own m => exact h2.1
  | arr m => simp [dataAp] at hd
  | dead => simp [dataAp] at hd
  | x v => simp [dataAp] at hd
/-- The value, told its type. -/
theorem cast_rv {t : TypeId} {x : AV} {v : Value} (h : RV P X g st w x v) : RV P X g st w (cast P t x) v := by
  unfold cast
  split
  · split
    · rename_i e _
      have hv : v = .slice none 0 0 := h
      subst hv
      exact mk_cell ⟨rfl, .nil e _ rfl, rfl⟩
    · exact h
  · rename_i d ap
    obtain ⟨h1, h2, h3, h4⟩ := h
    refine ⟨h1, h2, h3, fun j k hj => ?_⟩
    match j, hj with
    | 0, hj =>
      simp at hj
      subst hj
      have h5 := h4 0 .bool rfl
      refine ⟨h5.1, ?_⟩
      have h6 := h5.2
      have key : ∀ {W : Nat → Nat → Prop} {u : Value}, RL P w W .bool d u → RL P w W .bool (.bool d.toBool) u := fun h => by
        cases h
        exact .bool (.bool d.toBool)
      generalize hap : ap.getD 0 .dead = q at h5 h6
      cases q with
      | ro => exact key h6
      | nl => exact ⟨key h6.1, h6.2⟩
      | full => exact ⟨key h6.1, h6.2⟩
      | own m => exact ⟨key h6.1, h6.2⟩
      | arr m => exact ⟨h6.1, fun hl => by
          obtain ⟨_, e, _, _, _, _, _, _, _, he, _⟩ := h6.2 hl
          cases he⟩
      | dead => trivial
      | x v => exact h6
    | j + 1, hj => simp at hj
  · exact h
/-! Types. -/
theorem sh_spec {t : TypeId} {s : Sh} (h : sh P t = some s) : ∃ i u, P.info? t = some i ∧ i.size = s.ks.length ∧ P.underlying t = some u ∧ aggT P t = s.agg ∧ (s.agg = false → s.ks.length = 1) := by
  unfold sh at h
  split at h
  · rename_i ks hk
    split at h
    · rename_i hc
      simp only [Option.some.injEq] at h
      subst h
      simp only [Bool.and_eq_true, Bool.or_eq_true, decide_eq_true_eq, beq_iff_eq] at hc
      obtain ⟨h1, h2⟩ := hc
      unfold sizeT at h1
      split at h1
      · rename_i i hi
        simp only [Option.some.injEq] at h1
        have hu : ∃ u, P.underlying t = some u := by
          unfold kinds at hk
          split at hk <;> first | exact ⟨_, by assumption⟩ | cases hk
        obtain ⟨u, hu⟩ := hu
        refine ⟨i, u, hi, h1, hu, rfl, fun ha => ?_⟩
        rcases h2 with h2 | h2
        · have h3 : aggT P t = false := ha
          rw [h3] at h2
          cases h2
        · exact h2
      · cases h1
    · cases h
  · cases h
theorem shp_sh {t : TypeId} {s : Sh} (h : shp P t = some s) : sh P t = some s ∧ s.plain = true := by
  unfold shp at h
  split at h
  · rename_i s' hs
    split at h
    · simp only [Option.some.injEq] at h
      subst h
      exact ⟨hs, by assumption⟩
    · cases h
  · cases h
theorem run_isAgg {t : TypeId} {s : Sh} (h : sh P t = some s) (w : World) : (isAgg t).run P w = .ok s.agg w := by
  obtain ⟨i, u, h1, h2, h3, h4, h5⟩ := sh_spec h
  unfold aggT at h4
  rw [h3] at h4
  simp only [isAgg, run_underlying h3, Sem.run_bind, Result.andThen_ok]
  cases u <;> simp_all
theorem run_sizeOf' {t : TypeId} {s : Sh} (h : sh P t = some s) (w : World) : (sizeOf t).run P w = .ok s.ks.length w := by
  obtain ⟨i, u, h1, h2, _⟩ := sh_spec h
  simp [sizeOf, typeInfo, h1, h2, go_sem]
/-! Cells. -/
theorem subL_getD (d : D) (z : D) : ∀ (n off j : Nat), (d.subL off n).getD j z = if j < n then d.cell (off + j) else z
  | 0, off, j => by simp [D.subL]
  | n + 1, off, j => by
    cases j with
    | zero => simp [D.subL]
    | succ j =>
      have := subL_getD d z n (off + 1) j
      simp only [List.getD_eq_getElem?_getD] at this
      simp only [D.subL, List.getD_eq_getElem?_getD, List.getElem?_cons_succ, this]
      simp only [Nat.add_lt_add_iff_right]
      rw [show off + 1 + j = off + (j + 1) from by omega]
theorem subL_length (d : D) : ∀ (n off : Nat), (d.subL off n).length = n
  | 0, _ => rfl
  | n + 1, off => by simp [D.subL, subL_length d n (off + 1)]
theorem fits_spec {ks0 : List LK} {off : Nat} {s : Sh} (h : fits ks0 off s = true) : (∀ j k, s.ks[j]? = some k → ks0[off + j]? = some k) ∧ off + s.ks.length ≤ ks0.length ∧ 0 < s.ks.length := by
  unfold fits at h
  simp only [Bool.and_eq_true, decide_eq_true_eq] at h
  obtain ⟨h1, h2⟩ := h
  have h3 : 0 < s.ks.length := by
    cases hs : s.ks with
    | nil => exact absurd hs h2
    | cons x r => simp
  have h4 := congrArg List.length h1
  simp only [List.length_take, List.length_drop] at h4
  refine ⟨fun j k hj => ?_, by omega, h3⟩
  rw [← h1] at hj
  have hjl : j < ((ks0.drop off).take s.ks.length).length := by
    rw [List.getElem?_eq_some_iff] at hj
    exact hj.1
  simp only [List.length_take, List.length_drop] at hjl
  rw [List.getElem?_take_of_lt (by omega), List.getElem?_drop] at hj
  exact hj
theorem RC.get {s : Sh} {d : D} {aps : List Ap} {cs : List Value} (h : RC P X g st w s d aps cs) {j : Nat} (hj : j < s.ks.length) : ∃ k, s.ks[j]? = some k ∧ RA P X g st w k (s.at d j) (aps.getD j .dead) (cs.getD j undef) :=
  ⟨s.ks[j], List.getElem?_eq_getElem hj, h.at_ j _ (List.getElem?_eq_getElem hj)⟩
/-- What is loaded out of cells. -/
theorem loadC_rv {s0 s : Sh} {d0 : D} {aps0 : List Ap} {cs : List Value} {off : Nat} (h : RC P X g st w s0 d0 aps0 cs) (hf : fits s0.ks off s = true) (h1 : s.agg = false → s.ks.length = 1) :
    RV P X g st w (loadC s0 d0 aps0 off s) (if s.agg then .agg ((cs.drop off).take s.ks.length).toArray else cs.getD off undef) := by
  obtain ⟨f1, f2, f3⟩ := fits_spec hf
  have hl := h.len
  have hla := h.lap
  unfold loadC
  cases hs : s.agg with
  | true =>
    simp only [if_true]
    split
    · rename_i h0
      split
      · rename_i hw
        simp only [Bool.and_eq_true, beq_iff_eq] at hw
        obtain ⟨rfl, hw⟩ := hw
        refine ⟨by rw [hs]; rfl, ?_, ?_, fun j k hj => ?_⟩
        · simp [Value.cells, hl, hw]
        · rw [hla, hw]
        · have hjl : j < s.ks.length := (List.getElem?_eq_some_iff.1 hj).1
          have h3 := h.at_ j k (by have := f1 j k hj; rwa [Nat.zero_add] at this)
          have hg : ((cs.drop 0).take s.ks.length).toArray.toList.getD j undef = cs.getD j undef := by
            rw [List.drop_zero, List.take_of_length_le (by omega)]
          simp only [Value.cells, hg]
          simpa only [Sh.at, hs, h0, if_true] using h3
      · refine ⟨by rw [hs]; rfl, ?_, ?_, fun j k hj => ?_⟩
        · simp [Value.cells, hl]; omega
        · simp [hla]; omega
        · have hjl : j < s.ks.length := (List.getElem?_eq_some_iff.1 hj).1
          have h3 := h.at_ (off + j) k (f1 j k hj)
          have hg : ((cs.drop off).take s.ks.length).toArray.toList.getD j undef = cs.getD (off + j) undef := by
            simp [List.getD_eq_getElem?_getD, List.getElem?_take_of_lt hjl]
          have hg2 : ((aps0.drop off).take s.ks.length).getD j .dead = aps0.getD (off + j) .dead := by
            simp [List.getD_eq_getElem?_getD, List.getElem?_take_of_lt hjl]
          simp only [Value.cells, hg, hg2]
          have hd : s.at (.agg (d0.subL off s.ks.length)) j = s0.at d0 (off + j) := by
            simp only [Sh.at, hs, h0, if_true]
            show (d0.subL off s.ks.length).getD j (.int 0) = _
            rw [subL_getD, if_pos hjl]
          rw [hd]
          exact h3
    · trivial
  | false =>
    simp only [Bool.false_eq_true, if_false]
    have h2 := h1 hs
    obtain ⟨k, hk⟩ : ∃ k, s.ks = [k] := by
      match hks : s.ks, h2 with
      | [k], _ => exact ⟨k, rfl⟩
    have h3 := h.at_ off k (by have := f1 0 k (by rw [hk]; rfl); simpa using this)
    have hsh : s = ⟨false, [k]⟩ := by cases s; simp_all
    subst hsh
    exact mk_cell h3
end
end Go.Proofs.Ytkimdfpmblhapaa.Va
