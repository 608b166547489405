/-
  The value-level condition generator, part 19: the operations behind a variable, for evaluation on values that are not known.
-/
import Derived.Test.YtlpkkliogonmnaaV34
set_option linter.all false

namespace Go.V

/-- The list at a path's end. -/
def getS (l : L) (p : List (Nat × Nat)) : Option (Nat × List Rec) :=
  match getR l p with
  | some (rec, o) => match rec[o]? with
    | some (.s sz es) => some (sz, es)
    | _ => none
  | none => none
def getV (l : L) (p : List (Nat × Nat)) : Value :=
  match getR l p with
  | some (rec, o) => match rec[o]? with
    | some (.v x) => x
    | _ => .bool false
  | none => .bool false
def intOf : Value → Int
  | .int _ n => n
  | _ => 0
def boolOf : Value → Bool
  | .bool b => b
  | _ => false
def strOf : Value → ByteArray
  | .string s => s
  | _ => .empty
def lfI : L → Int
  | .v (.int _ n) => n
  | _ => 0
def lfB : L → Bool
  | .v (.bool b) => b
  | _ => false
def lfT : L → ByteArray
  | .v (.string b) => b
  | _ => .empty
def lfS : L → List Rec
  | .s _ es => es
  | _ => []
def rowOf : L → List Rec
  | .s _ es => es
  | _ => []

/-- What is done with values that are not known. -/
structure Ops where
  pr : (Unit → Prop) → Prop
  ar : BinOp → IntKind → Int → Int → Int
  sh : BinOp → IntKind → Int → Int → Int
  cmp : BinOp → Int → Int → Bool
  wr : IntKind → Int → Int
  bq : BinOp → Bool → Bool → Bool
  bn : Bool → Bool
  sel : Bool → Bool → Bool → Bool
  mm : Bool → Int → Int → Int
  ln : List Rec → Nat
  zi : Nat → Int
  nn : Int → Nat
  ad : Nat → Int → Nat
  df : Int → Int → Nat
  cat : List Rec → List Rec → List Rec
  sub : List Rec → Nat → Nat → List Rec
  rep : Int → Rec → List Rec
  gi : List Rec → Int → Nat → Int
  gb : List Rec → Int → Nat → Bool
  gt : List Rec → Int → Nat → ByteArray
  gs : List Rec → Int → Nat → List Rec
  pi : L → List (Nat × Nat) → Int
  pb : L → List (Nat × Nat) → Bool
  pt : L → List (Nat × Nat) → ByteArray
  ps : L → List (Nat × Nat) → List Rec
  up : L → List (Nat × Nat) → Rec → List Rec

def arI (op : BinOp) (k : IntKind) (a b : Int) : Int :=
  match op with
  | .add => k.wrap (a + b)
  | .sub => k.wrap (a - b)
  | .mul => k.wrap (a * b)
  | .quo => k.wrap (a.tdiv b)
  | .rem => a.tmod b
  | .and => k.wrap (BitVec.ofInt k.bits a &&& BitVec.ofInt k.bits b).toNat
  | .or => k.wrap (BitVec.ofInt k.bits a ||| BitVec.ofInt k.bits b).toNat
  | .xor => k.wrap (BitVec.ofInt k.bits a ^^^ BitVec.ofInt k.bits b).toNat
  | .andNot => k.wrap (BitVec.ofInt k.bits a &&& ~~~ BitVec.ofInt k.bits b).toNat
  | _ => 0
def shI (op : BinOp) (k : IntKind) (a b : Int) : Int :=
  match op with
  | .shl => k.wrap (a * 2 ^ (min b.toNat k.bits))
  | _ => a.fdiv (2 ^ (min b.toNat k.bits))
def cmpI (op : BinOp) (a b : Int) : Bool :=
  match op with
  | .eql => a == b
  | .neq => a != b
  | .lss => decide (a < b)
  | .leq => decide (a ≤ b)
  | .gtr => decide (a > b)
  | .geq => decide (a ≥ b)
  | _ => false
def bqI (op : BinOp) (a b : Bool) : Bool :=
  match op with
  | .eql => a == b
  | _ => a != b

def prI (f : Unit → Prop) : Prop := f ()
def wrI (k : IntKind) (a : Int) : Int := k.wrap a
def bnI (b : Bool) : Bool := !b
def selI (c x y : Bool) : Bool := bif c then x else y
def mmI (isMax : Bool) (a b : Int) : Int := if isMax then (if b > a then b else a) else (if b < a then b else a)
def lnI (es : List Rec) : Nat := es.length
def ziI (n : Nat) : Int := n
def nnI (i : Int) : Nat := i.toNat
def adI (lo : Nat) (i : Int) : Nat := lo + i.toNat
def dfI (h l : Int) : Nat := h.toNat - l.toNat
def catI (a b : List Rec) : List Rec := a ++ b
def subI (es : List Rec) (lo m : Nat) : List Rec := (es.drop lo).take m
def repI (n : Int) (r : Rec) : List Rec := List.replicate n.toNat r
def giI (es : List Rec) (i : Int) (j : Nat) : Int := lfI ((es.getD i.toNat []).getD j .g)
def gbI (es : List Rec) (i : Int) (j : Nat) : Bool := lfB ((es.getD i.toNat []).getD j .g)
def gtI (es : List Rec) (i : Int) (j : Nat) : ByteArray := lfT ((es.getD i.toNat []).getD j .g)
def gsI (es : List Rec) (i : Int) (j : Nat) : List Rec := lfS ((es.getD i.toNat []).getD j .g)
def piI (l : L) (p : List (Nat × Nat)) : Int := intOf (getV l p)
def pbI (l : L) (p : List (Nat × Nat)) : Bool := boolOf (getV l p)
def ptI (l : L) (p : List (Nat × Nat)) : ByteArray := strOf (getV l p)
def psI (l : L) (p : List (Nat × Nat)) : List Rec := match getS l p with
  | some (_, es) => es
  | none => []
def upI (l : L) (p : List (Nat × Nat)) (new : Rec) : List Rec := rowOf (setR l p new)

def stdO : Ops := ⟨prI, arI, shI, cmpI, wrI, bqI, bnI, selI, mmI, lnI, ziI, nnI, adI, dfI, catI, subI, repI, giI, gbI, gtI, gsI, piI, pbI, ptI, psI, upI⟩

/-- The standard operations, one by one. -/
def Std (pr : (Unit → Prop) → Prop) (ar sh : BinOp → IntKind → Int → Int → Int) (cmp : BinOp → Int → Int → Bool) (wr : IntKind → Int → Int) (bq : BinOp → Bool → Bool → Bool) (bn : Bool → Bool) (sel : Bool → Bool → Bool → Bool) (mm : Bool → Int → Int → Int)
    (ln : List Rec → Nat) (zi : Nat → Int) (nn : Int → Nat) (ad : Nat → Int → Nat) (df : Int → Int → Nat) (cat : List Rec → List Rec → List Rec) (sub : List Rec → Nat → Nat → List Rec) (rep : Int → Rec → List Rec)
    (gi : List Rec → Int → Nat → Int) (gb : List Rec → Int → Nat → Bool) (gt : List Rec → Int → Nat → ByteArray) (gs : List Rec → Int → Nat → List Rec)
    (pi : L → List (Nat × Nat) → Int) (pb : L → List (Nat × Nat) → Bool) (pt : L → List (Nat × Nat) → ByteArray) (ps : L → List (Nat × Nat) → List Rec) (up : L → List (Nat × Nat) → Rec → List Rec) : Prop :=
  pr = prI ∧ ar = arI ∧ sh = shI ∧ cmp = cmpI ∧ wr = wrI ∧ bq = bqI ∧ bn = bnI ∧ sel = selI ∧ mm = mmI ∧ ln = lnI ∧ zi = ziI ∧ nn = nnI ∧ ad = adI ∧ df = dfI ∧ cat = catI ∧ sub = subI ∧ rep = repI ∧
    gi = giI ∧ gb = gbI ∧ gt = gtI ∧ gs = gsI ∧ pi = piI ∧ pb = pbI ∧ pt = ptI ∧ ps = psI ∧ up = upI

/-- What is known of a program's types and functions. -/
structure Tab where
  tyL : List (Nat × TI)
  elL : List (Nat × (TypeId × TI × Nat))
  fdL : List (Nat × List (Option Nat))
  bdL : List (Nat × List (Nat × Nat))
  itL : List (Nat × IntKind)
  boL : List (Nat × Unit)
  slL : List (Nat × Unit)
  fnL : List (Nat × Unit)

def lk {α : Type} : List (Nat × α) → Nat → Option α
  | [], _ => none
  | (k, x) :: r, t => match Nat.beq k t with
    | true => some x
    | false => lk r t

def lkF : Option (List (Option Nat)) → Nat → Option Nat
  | none, _ => none
  | some l, f => l.getD f none

def TabOk (P : Program) (T : Tab) : Prop :=
  (T.tyL.map fun p => tyI P p.1) = (T.tyL.map fun p => some p.2) ∧
  (T.elL.map fun p => elI P p.1) = (T.elL.map fun p => some p.2) ∧
  (T.fdL.map fun p => (List.range p.2.length).map (fdI P p.1)) = (T.fdL.map fun p => p.2) ∧
  (T.bdL.map fun p => bdI P p.1) = (T.bdL.map fun p => some p.2) ∧
  (T.itL.map fun p => intT P p.1) = (T.itL.map fun p => some p.2) ∧
  (T.boL.map fun p => isBoolT P p.1) = (T.boL.map fun _ => true) ∧
  (T.slL.map fun p => isSliceT P p.1) = (T.slL.map fun _ => true) ∧
  (T.fnL.map fun p => hasBody P p.1) = (T.fnL.map fun _ => true)

theorem lk_mem {α : Type} : ∀ {l : List (Nat × α)} {t : Nat} {x : α}, lk l t = some x → (t, x) ∈ l
  | [], _, _, h => by cases h
  | (k, y) :: r, t, x, h => by
    simp only [lk] at h
    split at h
    · rename_i e; cases h; cases Nat.eq_of_beq_eq_true e; simp
    · exact List.mem_cons_of_mem _ (lk_mem h)
theorem map_mem {α β : Type} {f g : α → β} : ∀ {l : List α}, l.map f = l.map g → ∀ x ∈ l, f x = g x
  | [], _, x, hx => by cases hx
  | y :: l, h, x, hx => by
    simp only [List.map_cons, List.cons.injEq] at h
    rcases List.mem_cons.1 hx with rfl | hx
    · exact h.1
    · exact map_mem h.2 x hx

section
variable {P : Program} {T : Tab}
theorem TabOk.ty (h : TabOk P T) (t : Nat) : lk T.tyL t = none ∨ ∃ x, lk T.tyL t = some x ∧ tyI P t = some x := by
  cases e : lk T.tyL t with
  | none => exact .inl rfl
  | some x => exact .inr ⟨x, rfl, map_mem h.1 _ (lk_mem e)⟩
theorem TabOk.el (h : TabOk P T) (t : Nat) : lk T.elL t = none ∨ ∃ x, lk T.elL t = some x ∧ elI P t = some x := by
  cases e : lk T.elL t with
  | none => exact .inl rfl
  | some x => exact .inr ⟨x, rfl, map_mem h.2.1 _ (lk_mem e)⟩
theorem TabOk.fd (h : TabOk P T) (s f : Nat) : lkF (lk T.fdL s) f = none ∨ ∃ x, lkF (lk T.fdL s) f = some x ∧ fdI P s f = some x := by
  cases e : lk T.fdL s with
  | none => exact .inl rfl
  | some l =>
    have h1 := map_mem h.2.2.1 _ (lk_mem e)
    simp only at h1
    cases e2 : l.getD f none with
    | none => exact .inl e2
    | some x =>
      refine .inr ⟨x, e2, ?_⟩
      have hlt : f < l.length := by
        rcases Nat.lt_or_ge f l.length with c | c
        · exact c
        · rw [List.getD_eq_getElem?_getD, List.getElem?_eq_none c] at e2; cases e2
      have h2 : ((List.range l.length).map (fdI P s))[f]? = l[f]? := by rw [h1]
      rw [List.getElem?_map, List.getElem?_range hlt, List.getElem?_eq_getElem hlt] at h2
      rw [List.getD_eq_getElem?_getD, List.getElem?_eq_getElem hlt] at e2
      simp at h2 e2
      rw [h2, e2]
theorem TabOk.bd (h : TabOk P T) (t : Nat) : lk T.bdL t = none ∨ ∃ x, lk T.bdL t = some x ∧ bdI P t = some x := by
  cases e : lk T.bdL t with
  | none => exact .inl rfl
  | some x => exact .inr ⟨x, rfl, map_mem h.2.2.2.1 _ (lk_mem e)⟩
theorem TabOk.it (h : TabOk P T) (t : Nat) : lk T.itL t = none ∨ ∃ x, lk T.itL t = some x ∧ intT P t = some x := by
  cases e : lk T.itL t with
  | none => exact .inl rfl
  | some x => exact .inr ⟨x, rfl, map_mem h.2.2.2.2.1 _ (lk_mem e)⟩
theorem TabOk.bo (h : TabOk P T) (t : Nat) : lk T.boL t = none ∨ ∃ x, lk T.boL t = some x ∧ isBoolT P t = true := by
  cases e : lk T.boL t with
  | none => exact .inl rfl
  | some x => exact .inr ⟨x, rfl, map_mem h.2.2.2.2.2.1 _ (lk_mem e)⟩
theorem TabOk.sl (h : TabOk P T) (t : Nat) : lk T.slL t = none ∨ ∃ x, lk T.slL t = some x ∧ isSliceT P t = true := by
  cases e : lk T.slL t with
  | none => exact .inl rfl
  | some x => exact .inr ⟨x, rfl, map_mem h.2.2.2.2.2.2.1 _ (lk_mem e)⟩
theorem TabOk.fn (h : TabOk P T) (t : Nat) : lk T.fnL t = none ∨ ∃ x, lk T.fnL t = some x ∧ hasBody P t = true := by
  cases e : lk T.fnL t with
  | none => exact .inl rfl
  | some x => exact .inr ⟨x, rfl, map_mem h.2.2.2.2.2.2.2 _ (lk_mem e)⟩
end

abbrev CT := FuncId → List DV → Option ((Unit → Prop) × List DV)
abbrev MT := FuncId → Option MK
/-- What is known of the functions that are called: those that only read, those that write into their arguments. -/
structure Cts where
  rd : CT
  mu : MT

section
variable (T : Tab) (O : Ops) (ct : Cts) (n : Nat)

/-- A record at a place that is not known. -/
def etaE (O : Ops) (es : List Rec) (i : Int) : Nat → Rec → Rec
  | _, [] => []
  | j, .v (.int k _) :: zs => .v (.int k (O.gi es i j)) :: etaE O es i (j + 1) zs
  | j, .v (.bool _) :: zs => .v (.bool (O.gb es i j)) :: etaE O es i (j + 1) zs
  | j, .v (.string _) :: zs => .v (.string (O.gt es i j)) :: etaE O es i (j + 1) zs
  | j, .s sz _ :: zs => .s sz (O.gs es i j) :: etaE O es i (j + 1) zs
  | j, _ :: zs => .g :: etaE O es i (j + 1) zs
/-- What lies at a path that is not known. -/
def etaP (O : Ops) (l : L) (p : List (Nat × Nat)) : Nat → Rec → Rec
  | _, [] => []
  | j, .v (.int k _) :: zs => .v (.int k (O.pi l (adv p j))) :: etaP O l p (j + 1) zs
  | j, .v (.bool _) :: zs => .v (.bool (O.pb l (adv p j))) :: etaP O l p (j + 1) zs
  | j, .v (.string _) :: zs => .v (.string (O.pt l (adv p j))) :: etaP O l p (j + 1) zs
  | j, .s sz _ :: zs => .s sz (O.ps l (adv p j)) :: etaP O l p (j + 1) zs
  | j, _ :: zs => .g :: etaP O l p (j + 1) zs

def leafAO (r j : Nat) (h : Hv) : A :=
  match h.c with
  | .own (.v x) => .v x
  | .own (.s _ es) => .vw r j h.ver 0 (O.ln es)
  | .own .g => .un
  | .ro (.v x) => .v x
  | .ro (.s sz es) => .ro sz es
  | .ro .g => .un
  | .gone => .un
def loadLeavesO {α : Type} (r : Nat) : Nat → Nat → (List A → Rd α) → Rd α
  | _, 0, k => k []
  | j, m + 1, k => rdH r j fun h => loadLeavesO r (j + 1) m fun as => k (leafAO O r j h :: as)
def nestAO (r j ver iv : Nat) (p : List (Nat × Nat)) : Nat → Rec → List A
  | _, [] => []
  | o, .v x :: ls => .v x :: nestAO r j ver iv p (o + 1) ls
  | o, .s _ es :: ls => .vn r j ver iv (adv p o) 0 (O.ln es) :: nestAO r j ver iv p (o + 1) ls
  | o, .g :: ls => .un :: nestAO r j ver iv p (o + 1) ls

def vLoadO (d : Option Tmp) (t : TypeId) (x : Operand) : Rd Out :=
  match lk T.tyL t with
  | none => .fail
  | some ti => ev1 x fun
    | .pt r j => loadLeavesO O r j ti.zero.length fun as => mkR ti as (toReg n d)
    | .pn r j ver iv p => rdH r j fun h =>
      if good h ver iv p then match h.c with
        | .own l => .req (O.pr fun _ => ∃ rec o, getR l p = some (rec, o) ∧ o + ti.zero.length ≤ rec.length ∧ (rec.drop o).take ti.zero.length = etaP O l p 0 ti.zero)
            (mkR ti (nestAO O r j ver h.iv p 0 (etaP O l p 0 ti.zero)) (toReg n d))
        | _ => .fail
      else .fail
    | .rp rec o => if o + ti.zero.length ≤ rec.length then mkR ti (((rec.drop o).take ti.zero.length).map roA) (toReg n d) else .fail
    | _ => .fail

def take1O {α : Type} (slot : Option Nat) (a : A) (k : L → Option Nat → List (Nat × Nat) → Rd α) : Rd α :=
  match a, slot with
  | .v x, none => if scal x then k (.v x) none [] else .fail
  | .nl, some sz => k (.s sz []) none []
  | .vw r j ver lo m, some sz => rdH r j fun h =>
    match h.c with
    | .own (.s sz' es) => if h.ver == ver && sz' == sz then .req (O.pr fun _ => lo = 0 ∧ m = es.length) (k (.s sz' es) h.org [(r, j)]) else .fail
    | _ => .fail
  | _, _ => .fail
def takeAllO {α : Type} : List (Option Nat) → List A → (List (L × Option Nat) → List (Nat × Nat) → Rd α) → Rd α
  | [], [], k => k [] []
  | sl :: sls, a :: as, k => take1O O sl a fun l og src => takeAllO sls as fun ls srcs => k ((l, og) :: ls) (src ++ srcs)
  | _, _, _ => .fail
def put1O {α : Type} (slot : Option Nat) (a : A) (k : H → Option Nat → List (Nat × Nat) → Rd α) : Rd α :=
  match a, slot with
  | .ro sz' es, some sz => if sz' == sz then k (.ro (.s sz' es)) none [] else .fail
  | a, slot => take1O O slot a fun l og src => k (.own l) og src
def putAllO {α : Type} : List (Option Nat) → List A → (List (H × Option Nat) → List (Nat × Nat) → Rd α) → Rd α
  | [], [], k => k [] []
  | sl :: sls, a :: as, k => put1O O sl a fun h og src => putAllO sls as fun hs srcs => k ((h, og) :: hs) (src ++ srcs)
  | _, _, _ => .fail

def vStoreO (t : TypeId) (x y : Operand) : Rd Out :=
  match lk T.tyL t with
  | none => .fail
  | some ti => ev1 x fun p => ev y fun val =>
    match leavesOf val with
    | none => .fail
    | some as =>
      match p with
      | .pt r j => putAllO O ti.slots as fun hs srcs =>
        if distinctP srcs && srcs.all (fun s => !inRange r j hs.length s) then
          gones srcs fun w1 => storeLeaves r j hs fun w2 => .ret (.ws (w1 ++ w2))
        else .fail
      | .pn r j ver iv p => takeAllO O ti.slots as fun ls srcs =>
        if distinctP srcs && srcs.all (fun s => s != (r, j)) then
          gones srcs fun w1 => rdH r j fun h =>
            if good h ver iv p then match h.c with
              | .own (.s sz es) => .req (O.pr fun _ => ∃ rec o, getR (.s sz es) p = some (rec, o) ∧ o + ls.length ≤ rec.length)
                  (.ret (.ws (w1 ++ [.leaf r j ⟨h.ver, h.iv + 1, h.org, .own (.s sz (O.up (.s sz es) p (ls.map (·.1))))⟩])))
              | _ => .fail
            else .fail
        else .fail
      | _ => .fail

def vBoxO (d : Option Tmp) (t : TypeId) (x : Operand) : Rd Out :=
  match lk T.tyL t with
  | none => .fail
  | some ti => ev x fun val =>
    match leavesOf val with
    | none => .fail
    | some as => fresh n d fun d => putAllO O ti.slots as fun hs srcs =>
      if distinctP srcs then gones srcs fun w1 => .ret (.ws (w1 ++ [.root d true (hvs hs), .reg d (.one (.pt d 0))])) else .fail

def ownRowO (d : Nat) (sz : Nat) (es : List Rec) : List W := [.root d false [⟨0, 0, none, .own (.s sz es)⟩], .reg d (.one (.vw d 0 0 0 (O.ln es)))]

def vMakeO (d : Option Tmp) (t : TypeId) (len cap : Operand) : Rd Out :=
  match lk T.elL t with
  | none => .fail
  | some (_, ti, bytes) => evInt len fun kl l => evInt cap fun kc c =>
    if kl == .i64 && kc == .i64 then
      .req (O.pr fun _ => 0 ≤ l ∧ l ≤ c ∧ c * (bytes : Int) ≤ 70368744177664 ∧ c ≤ 70368744177664) (fresh n d fun d => .ret (.ws (ownRowO O d ti.zero.length (O.rep l ti.zero))))
    else .fail

def partsOfO {α : Type} (ti : TI) (len : Nat) : List (Nat × Operand) → (List (Nat × List L) → List (Nat × Nat) → Rd α) → Rd α
  | [], k => k [] []
  | (i, x) :: ps, k => if i < len then ev x fun val => match leavesOf val with
      | none => .fail
      | some as => takeAllO O ti.slots as fun ls src => partsOfO ti len ps fun rest srcs => k ((i, ls.map (·.1)) :: rest) (src ++ srcs)
    else .fail
def vBuildSliceO (d : Option Tmp) (t : TypeId) (len : Nat) (parts : Array (Nat × Operand)) : Rd Out :=
  match lk T.elL t with
  | none => .fail
  | some (_, ti, _) => if len * ti.zero.length ≤ 16777216 then
      partsOfO O ti len parts.toList fun ps srcs => if distinctP srcs then gones srcs fun w1 => fresh n d fun d => .ret (.ws (w1 ++ ownRowO O d ti.zero.length (placeParts (List.replicate len ti.zero) ps))) else .fail
    else .fail

def vIndexAddrO (d : Option Tmp) (t : TypeId) (x i : Operand) : Rd Out :=
  match lk T.elL t with
  | none => .fail
  | some (_, ti, _) => ev1 x fun a => evInt i fun _ i =>
    match a with
    | .ro sz es => if sz == ti.zero.length then .req (O.pr fun _ => 0 ≤ i ∧ i < es.length ∧ es.getD i.toNat [] = etaE O es i 0 ti.zero) (toReg n d (.one (.rp (etaE O es i 0 ti.zero) 0))) else .fail
    | .vw r j ver lo m => rdH r j fun h => match h.c with
      | .own (.s sz _) => if h.ver == ver && sz == ti.zero.length then .req (O.pr fun _ => 0 ≤ i ∧ i < m) (toReg n d (.one (.pn r j ver h.iv [(O.ad lo i, 0)]))) else .fail
      | _ => .fail
    | .vn r j ver iv p lo m => rdH r j fun h => match h.c with
      | .own l => if goodN h ver iv then .req (O.pr fun _ => 0 ≤ i ∧ i < m ∧ ∃ es, getS l p = some (ti.zero.length, es)) (toReg n d (.one (.pn r j ver iv (p ++ [(O.ad lo i, 0)])))) else .fail
      | _ => .fail
    | _ => .fail

def vSliceO (d : Option Tmp) (t : TypeId) (x : Operand) (low high max : Option Operand) : Rd Out :=
  match lk T.elL t, max with
  | some (_, ti, _), none => ev1 x fun
    | .ro sz es => if sz == ti.zero.length then evBound low 0 fun l => evBound high (O.zi (O.ln es)) fun h =>
        .req (O.pr fun _ => 0 ≤ l ∧ l ≤ h ∧ h ≤ es.length) (toReg n d (.one (.ro sz (O.sub es (O.nn l) (O.df h l))))) else .fail
    | .vw r j ver lo m => rdH r j fun hv => match hv.c with
      | .own (.s sz _) => if hv.ver == ver && sz == ti.zero.length then evBound low 0 fun l => evBound high (O.zi m) fun h =>
          .req (O.pr fun _ => 0 ≤ l ∧ l ≤ h ∧ h ≤ m) (toReg n d (.one (.vw r j ver (O.ad lo l) (O.df h l)))) else .fail
      | _ => .fail
    | _ => .fail
  | _, _ => .fail

def isSh : BinOp → Bool
  | .shl => true
  | .shr => true
  | _ => false
def isAr : BinOp → Bool
  | .add => true
  | .sub => true
  | .mul => true
  | .quo => true
  | .rem => true
  | .and => true
  | .or => true
  | .xor => true
  | .andNot => true
  | _ => false
def isDiv : BinOp → Bool
  | .quo => true
  | .rem => true
  | _ => false
def isCmp : BinOp → Bool
  | .eql => true
  | .neq => true
  | .lss => true
  | .leq => true
  | .gtr => true
  | .geq => true
  | _ => false
def isEq : BinOp → Bool
  | .eql => true
  | .neq => true
  | _ => false
def vBinO (d : Option Tmp) (op : BinOp) (t : TypeId) (x y : Operand) : Rd Out :=
  ev1 x fun a => ev1 y fun b =>
    match a, b with
    | .v (.int k a), .v (.int k' b) =>
      if isSh op then .req (O.pr fun _ => 0 ≤ b) (toReg n d (.one (.v (.int k (O.sh op k a b)))))
      else if k == k' then
        (if isDiv op then .req (O.pr fun _ => b ≠ 0) (toReg n d (.one (.v (.int k (O.ar op k a b)))))
         else if isAr op then toReg n d (.one (.v (.int k (O.ar op k a b))))
         else if isCmp op then toReg n d (.one (.v (.bool (O.cmp op a b))))
         else .fail)
      else .fail
    | .v (.bool a), .v (.bool b) => if (lk T.boL t).isSome && isEq op then toReg n d (.one (.v (.bool (O.bq op a b)))) else .fail
    | _, _ => .fail

def vUnO (d : Option Tmp) (op : UnOp) (x : Operand) : Rd Out :=
  ev1 x fun a => match op, a with
    | .not, .v (.bool b) => toReg n d (.one (.v (.bool (O.bn b))))
    | .neg, .v (.int k a) => toReg n d (.one (.v (.int k (O.ar .sub k 0 a))))
    | _, _ => .fail

def lenAO {α : Type} (a : A) (k : Nat → Rd α) : Rd α :=
  match a with
  | .nl => k 0
  | .ro _ es => k (O.ln es)
  | .vw r j ver _ m => rdH r j fun h => match h.c with
    | .own (.s _ _) => if h.ver == ver then k m else .fail
    | _ => .fail
  | .vn r j ver iv p _ m => rdH r j fun h => match h.c with
    | .own l => if goodN h ver iv then .req (O.pr fun _ => (getS l p).isSome = true) (k m) else .fail
    | _ => .fail
  | _ => .fail

def srcElemsO {α : Type} (ti : TI) (a : A) (k : List Rec → List (Nat × Nat) → Rd α) : Rd α :=
  match a with
  | .nl => k [] []
  | .ro sz es => if sz == ti.zero.length && allScal ti.slots then .req (O.pr fun _ => scalRecs es) (k es []) else .fail
  | .vw r j ver lo m => rdH r j fun h => match h.c with
    | .own (.s sz es) => if h.ver == ver && sz == ti.zero.length then
        (if allScal ti.slots then .req (O.pr fun _ => scalRecs es) (k (O.sub es lo m) [])
         else .req (O.pr fun _ => lo = 0 ∧ m = es.length) (k es [(r, j)]))
      else .fail
    | _ => .fail
  | .vn r j ver iv p lo m => rdH r j fun h => match h.c with
    | .own l => if goodN h ver iv && allScal ti.slots then .req (O.pr fun _ => getS l p = some (ti.zero.length, O.ps l p) ∧ scalRecs (O.ps l p)) (k (O.sub (O.ps l p) lo m) []) else .fail
    | _ => .fail
  | _ => .fail
def vAppendO (d : Option Tmp) (t t' : TypeId) (s x : Operand) : Rd Out :=
  match lk T.elL t with
  | none => .fail
  | some (_, ti, bytes) => if t == t' then ev1 s fun a => ev1 x fun b =>
      take1O O (some ti.zero.length) a fun l _ src => match l with
        | .s sz es => if sz == ti.zero.length then srcElemsO O ti b fun es2 src2 => if distinctP (src ++ src2) then
            .req (O.pr fun _ => (es.length + es2.length) * bytes ≤ 70368744177664 ∧ es.length + es2.length ≤ 70368744177664) (gones (src ++ src2) fun w1 => fresh n d fun d => .ret (.ws (w1 ++ ownRowO O d ti.zero.length (O.cat es es2))))
          else .fail else .fail
        | _ => .fail
    else .fail

def argLO {α : Type} (slot : Option Nat) (a : A) (k : L → Rd α) : Rd α :=
  match a, slot with
  | .v x, none => if scal x then k (.v x) else .fail
  | .nl, some sz => k (.s sz [])
  | .ro sz' es, some sz => if sz' == sz then k (.s sz' es) else .fail
  | .vw r j ver lo m, some sz => rdH r j fun h => match h.c with
    | .own (.s sz' es) => if h.ver == ver && sz' == sz then k (.s sz' (O.sub es lo m)) else .fail
    | _ => .fail
  | .vn r j ver iv p lo m, some sz => rdH r j fun h => match h.c with
    | .own l => if goodN h ver iv then .req (O.pr fun _ => getS l p = some (sz, O.ps l p)) (k (.s sz (O.sub (O.ps l p) lo m))) else .fail
    | _ => .fail
  | _, _ => .fail
def argLsO {α : Type} : List (Option Nat) → List A → (List L → Rd α) → Rd α
  | [], [], k => k []
  | sl :: sls, a :: as, k => argLO O sl a fun l => argLsO sls as fun ls => k (l :: ls)
  | _, _, _ => .fail
def argDO {α : Type} (t : TypeId) (x : Operand) (k : DV → Rd α) : Rd α :=
  match lk T.tyL t with
  | none => .fail
  | some ti => ev x fun val => match val with
    | .one a => if ti.agg then .fail else argLsO O ti.slots [a] fun ls => match ls with
      | [l] => k (.one l)
      | _ => .fail
    | .agg as => if ti.agg then argLsO O ti.slots as fun ls => k (.agg ls) else .fail
    | .tup _ => .fail
def argDsO {α : Type} : List TypeId → List Operand → (List DV → Rd α) → Rd α
  | [], [], k => k []
  | t :: ts, x :: xs, k => argDO T O t x fun d => argDsO ts xs fun ds => k (d :: ds)
  | _, _, _ => .fail

def resLeafO (d : Nat) : Nat → List L → List A
  | _, [] => []
  | j, .v x :: ls => .v x :: resLeafO d (j + 1) ls
  | j, .s _ es :: ls => .vw d j 0 0 (O.ln es) :: resLeafO d (j + 1) ls
  | j, .g :: ls => .un :: resLeafO d (j + 1) ls
def resRO (d : Nat) (j : Nat) : DV → R
  | .one l => match resLeafO O d j [l] with
    | [a] => .one a
    | _ => .agg []
  | .agg ls => .agg (resLeafO O d j ls)
def resRsO (d : Nat) : Nat → List DV → List R
  | _, [] => []
  | j, r :: rs => resRO O d j r :: resRsO d (j + (dvLeaves r).length) rs
def resAllO (d : Nat) (res : List DV) : R := match res with
  | [r] => resRO O d 0 r
  | rs => .tup (resRsO O d 0 rs)
def resWsO (d : Nat) (res : List DV) : List W :=
  [.root d false ((res.flatMap dvLeaves).map fun l => ⟨0, 0, none, .own l⟩), .reg d (resAllO O d res)]

def vCallO (d : Option Tmp) (f : FuncId) (ts : Array TypeId) (args : Array Operand) : Rd Out :=
  if (lk T.fnL f).isSome then argDsO T O ts.toList args.toList fun ds => match ct.rd f ds with
    | some (pre, res) => .req (O.pr pre) (fresh n d fun d => .ret (.ws (resWsO O d res)))
    | none => .fail
  else .fail

def vAllocO (d : Option Tmp) (t : TypeId) : Rd Out :=
  match lk T.tyL t with
  | none => .fail
  | some ti => fresh n d fun d => .ret (.ws [.root d true (ti.zero.map fun l => ⟨0, 0, none, .own l⟩), .reg d (.one (.pt d 0))])
def vBuildO (d : Option Tmp) (t : TypeId) (parts : Array (Nat × Operand)) : Rd Out :=
  match lk T.tyL t with
  | none => .fail
  | some ti => match lk T.bdL t with
    | none => .fail
    | some bd => buildParts bd parts.toList (ti.zero.map zeroA) fun as => toReg n d (.agg as)
def vFieldAddrO (d : Option Tmp) (s : TypeId) (x : Operand) (f : Nat) : Rd Out :=
  match lkF (lk T.fdL s) f with
  | none => .fail
  | some o => ev1 x fun
    | .pt r j => toReg n d (.one (.pt r (j + o)))
    | .rp rec j => toReg n d (.one (.rp rec (j + o)))
    | .pn r j ver iv p => rdH r j fun h => match h.c with
      | .own _ => if good h ver iv p then toReg n d (.one (.pn r j ver iv (adv p o))) else .fail
      | _ => .fail
    | _ => .fail

def mmO (isMax : Bool) : List Value → Option Value
  | [.int k a, .int k' b] => if k == k' then some (.int k (O.mm isMax a b)) else none
  | _ => none

def vopO (o : Oper) : Rd Out :=
  match o.op with
  | .move x => ev x fun r => toReg n o.dst r
  | .assign x => ev x fun r =>
    match x, r, o.dst with
    | .tmp t, .one (.vw r0 j ver lo m), some d =>
      if r0 = t ∧ r0 ≠ d ∧ d < n then .get (.meta_ r0) fun
        | some (.m 1 false) => rdH r0 j fun h => match h.c, h.org with
          | .own (.s sz es), none => if h.ver == ver then .req (O.pr fun _ => lo = 0 ∧ m = es.length) (.get (.meta_ d) fun
            | none => .ret (.ws ([.leaf r0 j ⟨h.ver + 1, h.iv, none, .gone⟩] ++ ownRowO O d sz es))
            | some (.m 1 false) => rdH d 0 fun h2 => .ret (.ws [.leaf r0 j ⟨h.ver + 1, h.iv, none, .gone⟩, .leaf d 0 ⟨h2.ver + 1, h2.iv + 1, none, .own (.s sz es)⟩, .reg d (.one (.vw d 0 (h2.ver + 1) 0 (O.ln es)))])
            | _ => .fail) else .fail
          | _, _ => .fail
        | _ => .fail
      else toReg n o.dst r
    | _, _, _ => toReg n o.dst r
  | .pick c a b => evBool c fun c => ev1 a fun a => ev1 b fun b => match a, b with
    | .v x, .v y => match x, y with
      | .bool x, .bool y => toReg n o.dst (.one (.v (.bool (O.sel c x y))))
      | .tuple _, .bool y => .br c .fail (toReg n o.dst (.one (.v (.bool y))))
      | .bool x, .tuple _ => .br c (toReg n o.dst (.one (.v (.bool x)))) .fail
      | _, _ => .fail
    | _, _ => .fail
  | .alloc t => vAllocO T n o.dst t
  | .box t x => vBoxO T O n o.dst t x
  | .build t parts => vBuildO T n o.dst t parts
  | .buildSlice t len parts => vBuildSliceO T O n o.dst t len parts
  | .load t x => vLoadO T O n o.dst t x
  | .store t x y => match o.dst with
    | none => vStoreO T O t x y
    | some _ => .fail
  | .fieldAddr s x f => vFieldAddrO T n o.dst s x f
  | .indexAddr t x i => vIndexAddrO T O n o.dst t x i
  | .nilCheck x => ev1 x fun a => match a with
    | .pt _ _ => toReg n o.dst (.one a)
    | .rp _ _ => toReg n o.dst (.one a)
    | _ => .fail
  | .binOp op t x y _ => vBinO T O n o.dst op t x y
  | .unOp op _ x => vUnO O n o.dst op x
  | .convert src dst x => evInt x fun _ a => match lk T.itL src, lk T.itL dst with
    | some _, some k => toReg n o.dst (.one (.v (.int k (O.wr k a))))
    | _, _ => .fail
  | .makeSlice t l c => vMakeO T O n o.dst t l c
  | .slice t x lo hi mx => vSliceO T O n o.dst t x lo hi mx
  | .extract x i => ev x fun r => match r with
    | .tup rs => match rs[i]? with
      | some r => toReg n o.dst r
      | none => .fail
    | _ => .fail
  | .call c => match c.callee with
    | .builtin .len => match c.args.toList, c.argTypes.toList with
      | [x], [t] => if (lk T.slL t).isSome then ev1 x fun a => lenAO O a fun m => toReg n o.dst (.one (.v (.int .i64 (O.zi m)))) else .fail
      | _, _ => .fail
    | .builtin .append => match c.args.toList, c.argTypes.toList with
      | [s, x], [t, t'] => vAppendO T O n o.dst t t' s x
      | _, _ => .fail
    | .builtin .min => evList c.args.toList fun vs => match mmO O false vs with
      | some v => toReg n o.dst (.one (.v v))
      | none => .fail
    | .builtin .max => evList c.args.toList fun vs => match mmO O true vs with
      | some v => toReg n o.dst (.one (.v v))
      | none => .fail
    | .value (.func f) => match ct.mu f with
      | some mk => vCallM O.pr (lk T.tyL) n o.dst (lk T.fnL f).isSome c.argTypes c.args mk (resWsO O)
      | none => vCallO T O ct n o.dst f c.argTypes c.args
    | _ => .fail
  | _ => .fail

end

end Go.V
