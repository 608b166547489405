/-
  The value-level condition generator, part 2: what each operation asks and does.
-/
import Derived.Test.YtlpkkliogonmnaaV1
set_option linter.all false

namespace Go.V

/-- What an operation comes to: writes; or a call whose results make the writes. -/
inductive Out where
  | ws (l : List W)
  | call (f : FuncId) (ds : List DV) (mk : List DV → List W)

def rd {α : Type} (l : Loc) (k : Val → Rd α) : Rd α := .get l fun
  | some v => k v
  | none => .fail
def rdR {α : Type} (d : Nat) (k : R → Rd α) : Rd α := rd (.reg d) fun
  | .r x => k x
  | _ => .fail
def rdH {α : Type} (r j : Nat) (k : Hv → Rd α) : Rd α := rd (.leaf r j) fun
  | .h x => k x
  | _ => .fail

def constA : Value → A
  | .slice none 0 0 => .nl
  | x => .v x

def constR : Value → R
  | .agg cs => .agg (cs.toList.map constA)
  | c => .one (constA c)

/-- An operand. -/
def ev {α : Type} (x : Operand) (k : R → Rd α) : Rd α :=
  match x with
  | .tmp t => rdR t k
  | .const c => k (constR c)
  | _ => .fail
def ev1 {α : Type} (x : Operand) (k : A → Rd α) : Rd α := ev x fun
  | .one a => k a
  | _ => .fail
def evInt {α : Type} (x : Operand) (k : IntKind → Int → Rd α) : Rd α := ev1 x fun
  | .v (.int kd n) => k kd n
  | _ => .fail
def evBool {α : Type} (x : Operand) (k : Bool → Rd α) : Rd α := ev1 x fun
  | .v (.bool b) => k b
  | _ => .fail

def toReg (n : Nat) (d : Option Tmp) (x : R) : Rd Out :=
  match d with
  | some d => if d < n then .ret (.ws [.reg d x]) else .fail
  | none => .ret (.ws [])

/-- What a leaf's content is as a register. -/
def leafA (r j : Nat) (h : Hv) : A :=
  match h.c with
  | .own (.v x) => .v x
  | .own (.s _ es) => .vw r j h.ver 0 es.length
  | .own .g => .un
  | .ro (.v x) => .v x
  | .ro (.s sz es) => .ro sz es
  | .ro .g => .un
  | .gone => .un
def loadLeaves {α : Type} (r : Nat) : Nat → Nat → (List A → Rd α) → Rd α
  | _, 0, k => k []
  | j, m + 1, k => rdH r j fun h => loadLeaves r (j + 1) m fun as => k (leafA r j h :: as)
def roA : L → A
  | .v x => .v x
  | .s sz es => .ro sz es
  | .g => .un
def nestA (r j ver iv : Nat) (p : List (Nat × Nat)) : Nat → Rec → List A
  | _, [] => []
  | o, .v x :: ls => .v x :: nestA r j ver iv p (o + 1) ls
  | o, .s _ es :: ls => .vn r j ver iv (adv p o) 0 es.length :: nestA r j ver iv p (o + 1) ls
  | o, .g :: ls => .un :: nestA r j ver iv p (o + 1) ls

/-- Is a path into a leaf still good? -/
def good (h : Hv) (ver iv : Nat) (p : List (Nat × Nat)) : Bool := h.ver == ver && (p.length == 1 || h.iv == iv)
def goodN (h : Hv) (ver iv : Nat) : Bool := h.ver == ver && h.iv == iv

def mkR (ti : TI) (as : List A) (k : R → Rd Out) : Rd Out :=
  if ti.agg then k (.agg as) else match as with
    | [a] => k (.one a)
    | _ => .fail

def vLoad (P : Program) (n : Nat) (d : Option Tmp) (t : TypeId) (x : Operand) : Rd Out :=
  match tyI P t with
  | none => .fail
  | some ti => ev1 x fun
    | .pt r j => loadLeaves r j ti.zero.length fun as => mkR ti as (toReg n d)
    | .pn r j ver iv p => rdH r j fun h =>
      if good h ver iv p then match h.c with
        | .own l => match getR l p with
          | some (rec, o) => .req (o + ti.zero.length ≤ rec.length) (mkR ti (nestA r j ver h.iv p 0 ((rec.drop o).take ti.zero.length)) (toReg n d))
          | none => .fail
        | _ => .fail
      else .fail
    | .rp rec o => .req (o + ti.zero.length ≤ rec.length) (mkR ti (((rec.drop o).take ti.zero.length).map roA) (toReg n d))
    | _ => .fail

/-- A register's leaf made into a tree of the call's own: with the leaf that it is taken out of. -/
def take1 {α : Type} (slot : Option Nat) (a : A) (k : L → Option Nat → List (Nat × Nat) → Rd α) : Rd α :=
  match a, slot with
  | .v x, none => if scal x then k (.v x) none [] else .fail
  | .nl, some sz => k (.s sz []) none []
  | .vw r j ver lo m, some sz => rdH r j fun h =>
    match h.c with
    | .own (.s sz' es) => if h.ver == ver && sz' == sz then .req (lo = 0 ∧ m = es.length) (k (.s sz' es) h.org [(r, j)]) else .fail
    | _ => .fail
  | _, _ => .fail
def takeAll {α : Type} : List (Option Nat) → List A → (List (L × Option Nat) → List (Nat × Nat) → Rd α) → Rd α
  | [], [], k => k [] []
  | sl :: sls, a :: as, k => take1 sl a fun l og src => takeAll sls as fun ls srcs => k ((l, og) :: ls) (src ++ srcs)
  | _, _, _ => .fail

def distinctP : List (Nat × Nat) → Bool
  | [] => true
  | x :: xs => !xs.contains x && distinctP xs

/-- The leaves that are gone behind a move. -/
def gones {α : Type} : List (Nat × Nat) → (List W → Rd α) → Rd α
  | [], k => k []
  | (r, j) :: xs, k => rdH r j fun h => gones xs fun ws => k (.leaf r j ⟨h.ver + 1, h.iv, none, .gone⟩ :: ws)

def leavesOf : R → Option (List A)
  | .one a => some [a]
  | .agg as => some as
  | .tup _ => none

/-- What a leaf of a variable in memory takes: a tree of its own, or one that is only read. -/
def put1 {α : Type} (slot : Option Nat) (a : A) (k : H → Option Nat → List (Nat × Nat) → Rd α) : Rd α :=
  match a, slot with
  | .ro sz' es, some sz => if sz' == sz then k (.ro (.s sz' es)) none [] else .fail
  | a, slot => take1 slot a fun l og src => k (.own l) og src
def putAll {α : Type} : List (Option Nat) → List A → (List (H × Option Nat) → List (Nat × Nat) → Rd α) → Rd α
  | [], [], k => k [] []
  | sl :: sls, a :: as, k => put1 sl a fun h og src => putAll sls as fun hs srcs => k ((h, og) :: hs) (src ++ srcs)
  | _, _, _ => .fail

def storeLeaves {α : Type} (r : Nat) : Nat → List (H × Option Nat) → (List W → Rd α) → Rd α
  | _, [], k => k []
  | j, (c, og) :: cs, k => rdH r j fun h => storeLeaves r (j + 1) cs fun ws => k (.leaf r j ⟨h.ver + 1, h.iv + 1, og, c⟩ :: ws)

def inRange (r j m : Nat) (p : Nat × Nat) : Bool := p.1 == r && j ≤ p.2 && p.2 < j + m

def vStore (P : Program) (t : TypeId) (x y : Operand) : Rd Out :=
  match tyI P t with
  | none => .fail
  | some ti => ev1 x fun p => ev y fun val =>
    match leavesOf val with
    | none => .fail
    | some as =>
      match p with
      | .pt r j => putAll ti.slots as fun hs srcs =>
        if distinctP srcs && srcs.all (fun s => !inRange r j hs.length s) then
          gones srcs fun w1 => storeLeaves r j hs fun w2 => .ret (.ws (w1 ++ w2))
        else .fail
      | .pn r j ver iv p => takeAll ti.slots as fun ls srcs =>
        if distinctP srcs && srcs.all (fun s => s != (r, j)) then
          gones srcs fun w1 => rdH r j fun h =>
            if good h ver iv p then match h.c with
              | .own l => match getR l p with
                | some (rec, o) => .req (o + ls.length ≤ rec.length) (.ret (.ws (w1 ++ [.leaf r j ⟨h.ver, h.iv + 1, h.org, .own (setR l p (ls.map (·.1)))⟩])))
                | none => .fail
              | _ => .fail
            else .fail
        else .fail
      | _ => .fail

/-- A new root: only where none of that name is there. -/
def fresh {α : Type} (n : Nat) (d : Option Tmp) (k : Nat → Rd α) : Rd α :=
  match d with
  | some d => if d < n then .get (.meta_ d) fun
    | none => k d
    | some _ => .fail
    else .fail
  | none => .fail

def hvs : List (H × Option Nat) → List Hv := List.map fun c => ⟨0, 0, c.2, c.1⟩

def vBox (P : Program) (n : Nat) (d : Option Tmp) (t : TypeId) (x : Operand) : Rd Out :=
  match tyI P t with
  | none => .fail
  | some ti => ev x fun val =>
    match leavesOf val with
    | none => .fail
    | some as => fresh n d fun d => putAll ti.slots as fun hs srcs =>
      if distinctP srcs then gones srcs fun w1 => .ret (.ws (w1 ++ [.root d true (hvs hs), .reg d (.one (.pt d 0))])) else .fail

def vAlloc (P : Program) (n : Nat) (d : Option Tmp) (t : TypeId) : Rd Out :=
  match tyI P t with
  | none => .fail
  | some ti => fresh n d fun d => .ret (.ws [.root d true (ti.zero.map fun l => ⟨0, 0, none, .own l⟩), .reg d (.one (.pt d 0))])

/-- A slice of the call's own, new. -/
def ownRow (d : Nat) (sz : Nat) (es : List Rec) : List W := [.root d false [⟨0, 0, none, .own (.s sz es)⟩], .reg d (.one (.vw d 0 0 0 es.length))]

def vMake (P : Program) (n : Nat) (d : Option Tmp) (t : TypeId) (len cap : Operand) : Rd Out :=
  match elI P t with
  | none => .fail
  | some (_, ti, bytes) => evInt len fun kl l => evInt cap fun kc c =>
    if kl == .i64 && kc == .i64 then
      .req (0 ≤ l ∧ l ≤ c ∧ c * (bytes : Int) ≤ 70368744177664 ∧ c ≤ 70368744177664) (fresh n d fun d => .ret (.ws (ownRow d ti.zero.length (List.replicate l.toNat ti.zero))))
    else .fail

def placeParts (z : List Rec) : List (Nat × List L) → List Rec
  | [] => z
  | (i, ls) :: ps => placeParts (z.set i ls) ps
def partsOf {α : Type} (ti : TI) (len : Nat) : List (Nat × Operand) → (List (Nat × List L) → List (Nat × Nat) → Rd α) → Rd α
  | [], k => k [] []
  | (i, x) :: ps, k => if i < len then ev x fun val => match leavesOf val with
      | none => .fail
      | some as => takeAll ti.slots as fun ls src => partsOf ti len ps fun rest srcs => k ((i, ls.map (·.1)) :: rest) (src ++ srcs)
    else .fail
def vBuildSlice (P : Program) (n : Nat) (d : Option Tmp) (t : TypeId) (len : Nat) (parts : Array (Nat × Operand)) : Rd Out :=
  match elI P t with
  | none => .fail
  | some (_, ti, _) => if len * ti.zero.length ≤ 16777216 then
      partsOf ti len parts.toList fun ps srcs => if distinctP srcs then gones srcs fun w1 => fresh n d fun d => .ret (.ws (w1 ++ ownRow d ti.zero.length (placeParts (List.replicate len ti.zero) ps))) else .fail
    else .fail

def zeroA : L → A
  | .v x => .v x
  | .s _ _ => .nl
  | .g => .un
def splice (as : List A) (o : Nat) (bs : List A) : List A := as.take o ++ bs ++ as.drop (o + bs.length)
/-- Of a struct's fields: the first cell, the number of cells. -/
def bdI (P : Program) (t : TypeId) : Option (List (Nat × Nat)) :=
  match P.underlying t with
  | some (.struct fs) => fs.toList.mapM fun f => (P.info? f.type).map fun i => (f.offset, i.size)
  | _ => none
/-- A leaf that is one cell for sure. -/
def chk1 {α : Type} (a : A) (k : Rd α) : Rd α :=
  match a with
  | .v x => if x.oneCell' then k else .fail
  | .nl => k
  | .ro _ _ => k
  | .vw r j ver _ _ => rdH r j fun h => match h.c with
    | .own (.s _ _) => if h.ver == ver then k else .fail
    | _ => .fail
  | _ => .fail
def chkAll {α : Type} : List A → Rd α → Rd α
  | [], k => k
  | a :: as, k => chk1 a (chkAll as k)
def buildParts {α : Type} (bd : List (Nat × Nat)) : List (Nat × Operand) → List A → (List A → Rd α) → Rd α
  | [], as, k => k as
  | (i, x) :: ps, as, k => match bd[i]? with
    | none => .fail
    | some (o, m) => ev x fun val => match leavesOf val with
      | none => .fail
      | some bs => if bs.length = m ∧ o + m ≤ as.length ∧ 0 < m then chkAll bs (buildParts bd ps (splice as o bs) k) else .fail
def vBuild (P : Program) (n : Nat) (d : Option Tmp) (t : TypeId) (parts : Array (Nat × Operand)) : Rd Out :=
  match tyI P t, bdI P t with
  | some ti, some bd => buildParts bd parts.toList (ti.zero.map zeroA) fun as => toReg n d (.agg as)
  | _, _ => .fail

def vFieldAddr (P : Program) (n : Nat) (d : Option Tmp) (s : TypeId) (x : Operand) (f : Nat) : Rd Out :=
  match fdI P s f with
  | none => .fail
  | some o => ev1 x fun
    | .pt r j => toReg n d (.one (.pt r (j + o)))
    | .rp rec j => toReg n d (.one (.rp rec (j + o)))
    | .pn r j ver iv p => rdH r j fun h => match h.c with
      | .own _ => if good h ver iv p then toReg n d (.one (.pn r j ver iv (adv p o))) else .fail
      | _ => .fail
    | _ => .fail

def vIndexAddr (P : Program) (n : Nat) (d : Option Tmp) (t : TypeId) (x i : Operand) : Rd Out :=
  match elI P t with
  | none => .fail
  | some (_, ti, _) => ev1 x fun a => evInt i fun _ i =>
    match a with
    | .ro sz es => if sz == ti.zero.length then .req (0 ≤ i ∧ i < es.length) (toReg n d (.one (.rp (es.getD i.toNat []) 0))) else .fail
    | .vw r j ver lo m => rdH r j fun h => match h.c with
      | .own (.s sz _) => if h.ver == ver && sz == ti.zero.length then .req (0 ≤ i ∧ i < m) (toReg n d (.one (.pn r j ver h.iv [(lo + i.toNat, 0)]))) else .fail
      | _ => .fail
    | .vn r j ver iv p lo m => rdH r j fun h => match h.c with
      | .own l => if goodN h ver iv then match getR l p with
          | some (rec, o) => match rec[o]? with
            | some (.s sz _) => if sz == ti.zero.length then .req (0 ≤ i ∧ i < m) (toReg n d (.one (.pn r j ver iv (p ++ [(lo + i.toNat, 0)])))) else .fail
            | _ => .fail
          | none => .fail
        else .fail
      | _ => .fail
    | _ => .fail

def evBound {α : Type} (x : Option Operand) (dflt : Int) (k : Int → Rd α) : Rd α :=
  match x with
  | none => k dflt
  | some x => evInt x fun _ i => k i
def vSlice (P : Program) (n : Nat) (d : Option Tmp) (t : TypeId) (x : Operand) (low high max : Option Operand) : Rd Out :=
  match elI P t, max with
  | some (_, ti, _), none => ev1 x fun
    | .ro sz es => if sz == ti.zero.length then evBound low 0 fun l => evBound high es.length fun h =>
        .req (0 ≤ l ∧ l ≤ h ∧ h ≤ es.length) (toReg n d (.one (.ro sz ((es.take h.toNat).drop l.toNat)))) else .fail
    | .vw r j ver lo m => rdH r j fun hv => match hv.c with
      | .own (.s sz _) => if hv.ver == ver && sz == ti.zero.length then evBound low 0 fun l => evBound high m fun h =>
          .req (0 ≤ l ∧ l ≤ h ∧ h ≤ m) (toReg n d (.one (.vw r j ver (lo + l.toNat) (h.toNat - l.toNat)))) else .fail
      | _ => .fail
    | _ => .fail
  | _, _ => .fail

def ibin (op : BinOp) (k : IntKind) (a b : Int) : Option (Prop × Value) :=
  match op with
  | .add => some (True, .int k (k.wrap (a + b)))
  | .sub => some (True, .int k (k.wrap (a - b)))
  | .mul => some (True, .int k (k.wrap (a * b)))
  | .quo => some (b ≠ 0, .int k (k.wrap (a.tdiv b)))
  | .rem => some (b ≠ 0, .int k (a.tmod b))
  | .and => some (True, .int k (k.wrap (BitVec.ofInt k.bits a &&& BitVec.ofInt k.bits b).toNat))
  | .or => some (True, .int k (k.wrap (BitVec.ofInt k.bits a ||| BitVec.ofInt k.bits b).toNat))
  | .xor => some (True, .int k (k.wrap (BitVec.ofInt k.bits a ^^^ BitVec.ofInt k.bits b).toNat))
  | .andNot => some (True, .int k (k.wrap (BitVec.ofInt k.bits a &&& ~~~ BitVec.ofInt k.bits b).toNat))
  | .eql => some (True, .bool (a == b))
  | .neq => some (True, .bool (a != b))
  | .lss => some (True, .bool (decide (a < b)))
  | .leq => some (True, .bool (decide (a ≤ b)))
  | .gtr => some (True, .bool (decide (a > b)))
  | .geq => some (True, .bool (decide (a ≥ b)))
  | _ => none
def ishift (op : BinOp) (k : IntKind) (a b : Int) : Option Value :=
  match op with
  | .shl => some (.int k (k.wrap (a * 2 ^ (min b.toNat k.bits))))
  | .shr => some (.int k (a.fdiv (2 ^ (min b.toNat k.bits))))
  | _ => none
def isBoolT (P : Program) (t : TypeId) : Bool := match P.underlying t with
  | some .bool => true
  | _ => false
def intT (P : Program) (t : TypeId) : Option IntKind := match P.underlying t with
  | some (.int k) => some k
  | _ => none

def vBin (P : Program) (n : Nat) (d : Option Tmp) (op : BinOp) (t : TypeId) (x y : Operand) : Rd Out :=
  ev1 x fun a => ev1 y fun b =>
    match a, b with
    | .v (.int k a), .v (.int k' b) =>
      match ishift op k a b with
      | some v => .req (0 ≤ b) (toReg n d (.one (.v v)))
      | none => if k = k' then match ibin op k a b with
          | some (c, v) => .req c (toReg n d (.one (.v v)))
          | none => .fail
        else .fail
    | .v (.bool a), .v (.bool b) => if isBoolT P t then match op with
        | .eql => toReg n d (.one (.v (.bool (a == b))))
        | .neq => toReg n d (.one (.v (.bool (a != b))))
        | _ => .fail
      else .fail
    | _, _ => .fail

def vUn (n : Nat) (d : Option Tmp) (op : UnOp) (x : Operand) : Rd Out :=
  ev1 x fun a => match op, a with
    | .not, .v (.bool b) => toReg n d (.one (.v (.bool (!b))))
    | .neg, .v (.int k a) => toReg n d (.one (.v (.int k (k.wrap (0 - a)))))
    | _, _ => .fail

def lenA {α : Type} (a : A) (k : Nat → Rd α) : Rd α :=
  match a with
  | .nl => k 0
  | .ro _ es => k es.length
  | .vw r j ver _ m => rdH r j fun h => match h.c with
    | .own (.s _ _) => if h.ver == ver then k m else .fail
    | _ => .fail
  | .vn r j ver iv p _ m => rdH r j fun h => match h.c with
    | .own l => if goodN h ver iv then match getR l p with
        | some (rec, o) => match rec[o]? with
          | some (.s _ _) => k m
          | _ => .fail
        | none => .fail
      else .fail
    | _ => .fail
  | _ => .fail
def isSliceT (P : Program) (t : TypeId) : Bool := match P.underlying t with
  | some (.slice _) => true
  | _ => false

def minmax (isMax : Bool) : List Value → Option Value
  | [.int k a, .int k' b] => if k = k' then some (.int k (if isMax then (if b > a then b else a) else (if b < a then b else a))) else none
  | _ => none

/-- The elements that an append copies: of scalars alone, or those of a new row, which are moved. -/
def allScal (sl : List (Option Nat)) : Bool := sl.all (·.isNone)
def scalRec : Rec → Prop
  | [] => True
  | .v _ :: ls => scalRec ls
  | _ => False
def scalRecs : List Rec → Prop
  | [] => True
  | e :: es => scalRec e ∧ scalRecs es

def srcElems {α : Type} (ti : TI) (a : A) (k : List Rec → List (Nat × Nat) → Rd α) : Rd α :=
  match a with
  | .nl => k [] []
  | .ro sz es => if sz == ti.zero.length && allScal ti.slots then .req (scalRecs es) (k es []) else .fail
  | .vw r j ver lo m => rdH r j fun h => match h.c with
    | .own (.s sz es) => if h.ver == ver && sz == ti.zero.length then
        (if allScal ti.slots then .req (scalRecs es) (k ((es.drop lo).take m) [])
         else .req (lo = 0 ∧ m = es.length) (k es [(r, j)]))
      else .fail
    | _ => .fail
  | .vn r j ver iv p lo m => rdH r j fun h => match h.c with
    | .own l => if goodN h ver iv && allScal ti.slots then match getR l p with
        | some (rec, o) => match rec[o]? with
          | some (.s sz es) => if sz == ti.zero.length then .req (scalRecs es) (k ((es.drop lo).take m) []) else .fail
          | _ => .fail
        | none => .fail
      else .fail
    | _ => .fail
  | _ => .fail
def vAppend (P : Program) (n : Nat) (d : Option Tmp) (t t' : TypeId) (s x : Operand) : Rd Out :=
  match elI P t with
  | none => .fail
  | some (_, ti, bytes) => if t == t' then ev1 s fun a => ev1 x fun b =>
      take1 (some ti.zero.length) a fun l _ src => match l with
        | .s sz es => if sz == ti.zero.length then srcElems ti b fun es2 src2 => if distinctP (src ++ src2) then
            .req ((es.length + es2.length) * bytes ≤ 70368744177664 ∧ es.length + es2.length ≤ 70368744177664) (gones (src ++ src2) fun w1 => fresh n d fun d => .ret (.ws (w1 ++ ownRow d ti.zero.length (es ++ es2))))
          else .fail else .fail
        | _ => .fail
    else .fail

/-- An argument of a call that only reads it. -/
def argL {α : Type} (slot : Option Nat) (a : A) (k : L → Rd α) : Rd α :=
  match a, slot with
  | .v x, none => if scal x then k (.v x) else .fail
  | .nl, some sz => k (.s sz [])
  | .ro sz' es, some sz => if sz' == sz then k (.s sz' es) else .fail
  | .vw r j ver lo m, some sz => rdH r j fun h => match h.c with
    | .own (.s sz' es) => if h.ver == ver && sz' == sz then k (.s sz' ((es.drop lo).take m)) else .fail
    | _ => .fail
  | .vn r j ver iv p lo m, some sz => rdH r j fun h => match h.c with
    | .own l => if goodN h ver iv then match getR l p with
        | some (rec, o) => match rec[o]? with
          | some (.s sz' es) => if sz' == sz then k (.s sz' ((es.drop lo).take m)) else .fail
          | _ => .fail
        | none => .fail
      else .fail
    | _ => .fail
  | _, _ => .fail
def argLs {α : Type} : List (Option Nat) → List A → (List L → Rd α) → Rd α
  | [], [], k => k []
  | sl :: sls, a :: as, k => argL sl a fun l => argLs sls as fun ls => k (l :: ls)
  | _, _, _ => .fail
def argD {α : Type} (P : Program) (t : TypeId) (x : Operand) (k : DV → Rd α) : Rd α :=
  match tyI P t with
  | none => .fail
  | some ti => ev x fun val => match val with
    | .one a => if ti.agg then .fail else argLs ti.slots [a] fun ls => match ls with
      | [l] => k (.one l)
      | _ => .fail
    | .agg as => if ti.agg then argLs ti.slots as fun ls => k (.agg ls) else .fail
    | .tup _ => .fail
def argDs {α : Type} (P : Program) : List TypeId → List Operand → (List DV → Rd α) → Rd α
  | [], [], k => k []
  | t :: ts, x :: xs, k => argD P t x fun d => argDs P ts xs fun ds => k (d :: ds)
  | _, _, _ => .fail

/-- A call's results: one new root that holds all their leaves. -/
def resLeaf (d : Nat) : Nat → List L → List A
  | _, [] => []
  | j, .v x :: ls => .v x :: resLeaf d (j + 1) ls
  | j, .s _ es :: ls => .vw d j 0 0 es.length :: resLeaf d (j + 1) ls
  | j, .g :: ls => .un :: resLeaf d (j + 1) ls
def resR (d : Nat) (j : Nat) : DV → R
  | .one l => match resLeaf d j [l] with
    | [a] => .one a
    | _ => .agg []
  | .agg ls => .agg (resLeaf d j ls)
def dvLeaves : DV → List L
  | .one l => [l]
  | .agg ls => ls
def resRs (d : Nat) : Nat → List DV → List R
  | _, [] => []
  | j, r :: rs => resR d j r :: resRs d (j + (dvLeaves r).length) rs
def resAll (d : Nat) (res : List DV) : R := match res with
  | [r] => resR d 0 r
  | rs => .tup (resRs d 0 rs)
def resWs (d : Nat) (res : List DV) : List W :=
  [.root d false ((res.flatMap dvLeaves).map fun l => ⟨0, 0, none, .own l⟩), .reg d (resAll d res)]

def hasBody (P : Program) (f : FuncId) : Bool := match P.funcs[f]? with
  | some fn => fn.body.isSome && fn.name != "runtime.NumGoroutine"
  | none => false
def vCall (P : Program) (n : Nat) (d : Option Tmp) (f : FuncId) (ts : Array TypeId) (args : Array Operand) : Rd Out :=
  if hasBody P f then argDs P ts.toList args.toList fun ds => fresh n d fun d => .ret (.call f ds (resWs d)) else .fail

def evList {α : Type} : List Operand → (List Value → Rd α) → Rd α
  | [], k => k []
  | x :: xs, k => ev1 x fun
    | .v v => evList xs fun vs => k (v :: vs)
    | _ => .fail

def vop (P : Program) (n : Nat) (o : Oper) : Rd Out :=
  match o.op with
  | .move x => ev x fun r => toReg n o.dst r
  | .assign x => ev x fun r =>
    match x, r, o.dst with
    | .tmp t, .one (.vw r0 j ver lo m), some d =>
      if r0 = t ∧ r0 ≠ d ∧ d < n then .get (.meta_ r0) fun
        | some (.m 1 false) => rdH r0 j fun h => match h.c, h.org with
          | .own (.s sz es), none => if h.ver == ver then .req (lo = 0 ∧ m = es.length) (.get (.meta_ d) fun
            | none => .ret (.ws ([.leaf r0 j ⟨h.ver + 1, h.iv, none, .gone⟩] ++ ownRow d sz es))
            | some (.m 1 false) => rdH d 0 fun h2 => .ret (.ws [.leaf r0 j ⟨h.ver + 1, h.iv, none, .gone⟩, .leaf d 0 ⟨h2.ver + 1, h2.iv + 1, none, .own (.s sz es)⟩, .reg d (.one (.vw d 0 (h2.ver + 1) 0 es.length))])
            | _ => .fail) else .fail
          | _, _ => .fail
        | _ => .fail
      else toReg n o.dst r
    | _, _, _ => toReg n o.dst r
  | .pick c a b => evBool c fun c => ev1 a fun a => ev1 b fun b => match a, b with
    | .v x, .v y => match x, y with
      | .bool x, .bool y => toReg n o.dst (.one (.v (.bool (bif c then x else y))))
      | .tuple _, .bool y => .br c .fail (toReg n o.dst (.one (.v (.bool y))))
      | .bool x, .tuple _ => .br c (toReg n o.dst (.one (.v (.bool x)))) .fail
      | _, _ => .fail
    | _, _ => .fail
  | .alloc t => vAlloc P n o.dst t
  | .box t x => vBox P n o.dst t x
  | .build t parts => vBuild P n o.dst t parts
  | .buildSlice t len parts => vBuildSlice P n o.dst t len parts
  | .load t x => vLoad P n o.dst t x
  | .store t x y => match o.dst with
    | none => vStore P t x y
    | some _ => .fail
  | .fieldAddr s x f => vFieldAddr P n o.dst s x f
  | .indexAddr t x i => vIndexAddr P n o.dst t x i
  | .nilCheck x => ev1 x fun a => match a with
    | .pt _ _ => toReg n o.dst (.one a)
    | .rp _ _ => toReg n o.dst (.one a)
    | _ => .fail
  | .binOp op t x y _ => vBin P n o.dst op t x y
  | .unOp op _ x => vUn n o.dst op x
  | .convert src dst x => evInt x fun _ a => match intT P src, intT P dst with
    | some _, some k => toReg n o.dst (.one (.v (.int k (k.wrap a))))
    | _, _ => .fail
  | .makeSlice t l c => vMake P n o.dst t l c
  | .slice t x lo hi mx => vSlice P n o.dst t x lo hi mx
  | .extract x i => ev x fun r => match r with
    | .tup rs => match rs[i]? with
      | some r => toReg n o.dst r
      | none => .fail
    | _ => .fail
  | .call c => match c.callee with
    | .builtin .len => match c.args.toList, c.argTypes.toList with
      | [x], [t] => if isSliceT P t then ev1 x fun a => lenA a fun m => toReg n o.dst (.one (.v (.int .i64 m))) else .fail
      | _, _ => .fail
    | .builtin .append => match c.args.toList, c.argTypes.toList with
      | [s, x], [t, t'] => vAppend P n o.dst t t' s x
      | _, _ => .fail
    | .builtin .min => evList c.args.toList fun vs => match minmax false vs with
      | some v => toReg n o.dst (.one (.v v))
      | none => .fail
    | .builtin .max => evList c.args.toList fun vs => match minmax true vs with
      | some v => toReg n o.dst (.one (.v v))
      | none => .fail
    | .value (.func f) => vCall P n o.dst f c.argTypes c.args
    | _ => .fail
  | _ => .fail

end Go.V
