/-
  The value-level condition generator, part 1: trees of data, their readings in memory, the abstract state, and what each operation does to it.
-/
import Derived.WalkKit
import Derived.Orders
set_option linter.all false

namespace Go.V

/-- A tree of data: a scalar; a slice (cells per element, elements); a leaf whose value is not known any more. -/
inductive L where
  | v (x : Value)
  | s (sz : Nat) (es : List (List L))
  | g
abbrev Rec := List L

def scal : Value → Bool
  | .int _ _ | .bool _ | .string _ => true
  | _ => false

mutual
def RdL (w : World) : L → Value → List Nat → Prop
  | .v x, val, S => val = x ∧ scal x = true ∧ S = []
  | .g, val, S => val.oneCell' = true ∧ S = []
  | .s sz es, val, S => ∃ base len cap, val = .slice base len cap ∧ len = es.length ∧ len ≤ cap ∧ cap ≤ maxLen ∧
      ((cap = 0 ∧ S = []) ∨
       ∃ b off cur ty fz S', base = some ⟨b, off, none⟩ ∧ w.heap[b]? = some (.cells cur ty fz) ∧ off + cap * sz ≤ cur.size ∧
         RdEs w sz es ((cur.toList.drop off).take (len * sz)) S' ∧ S = b :: S')
def RdRec (w : World) : List L → List Value → List Nat → Prop
  | [], vs, S => vs = [] ∧ S = []
  | l :: ls, vs, S => ∃ v vs' S1 S2, vs = v :: vs' ∧ RdL w l v S1 ∧ RdRec w ls vs' S2 ∧ S = S1 ++ S2
def RdEs (w : World) (sz : Nat) : List (List L) → List Value → List Nat → Prop
  | [], vs, S => vs = [] ∧ S = []
  | e :: es, vs, S => ∃ v1 v2 S1 S2, vs = v1 ++ v2 ∧ v1.length = sz ∧ RdRec w e v1 S1 ∧ RdEs w sz es v2 S2 ∧ S = S1 ++ S2
end

inductive DV where
  | one (l : L)
  | agg (ls : Rec)

def RdDV (w : World) : DV → Value → List Nat → Prop
  | .one l, v, S => RdL w l v S
  | .agg ls, v, S => ∃ vs, v = .agg vs.toArray ∧ RdRec w ls vs S

def RdDVs (w : World) : List DV → List Value → List Nat → Prop
  | [], vs, S => vs = [] ∧ S = []
  | d :: ds, vs, S => ∃ v vs' S1 S2, vs = v :: vs' ∧ RdDV w d v S1 ∧ RdDVs w ds vs' S2 ∧ S = S1 ++ S2

/-- The results of a call. -/
def RdRes (w : World) : List DV → Value → List Nat → Prop
  | [d], v, S => RdDV w d v S
  | ds, v, S => ∃ vs, v = .tuple vs.toArray ∧ RdDVs w ds vs S

/-- The arguments of a call that only reads them. -/
def RdArgs (ok : Nat → Prop) (w : World) : List DV → List Value → Prop
  | [], vs => vs = []
  | d :: ds, vs => ∃ v vs' S, vs = v :: vs' ∧ RdDV w d v S ∧ (∀ b ∈ S, ok b) ∧ RdArgs ok w ds vs'

def Unf (w : World) (b : Nat) : Prop := ∃ cur ty, w.heap[b]? = some (.cells cur ty (0, 0))

/-- What a call leaves alone. -/
structure Same (fr : Nat → Prop) (w w' : World) : Prop where
  os : w'.os = w.os
  tape : w'.tape = w.tape
  output : w'.output = w.output
  size : w.heap.size ≤ w'.heap.size
  block : ∀ b, b < w.heap.size → fr b → w'.heap[b]? = w.heap[b]?

/-- THE CONTRACT of a function that only reads its arguments and returns data of its own. -/
def Ctr (P : Program) (f : FuncId) (ds res : List DV) : Prop :=
  ∀ (w : World) (vs : List Value), RdArgs (fun _ => True) w ds vs →
    Calls P f vs.toArray w fun e w' => ∃ v S, e = .returned v ∧ RdRes w' res v S ∧ S.Nodup ∧ (∀ b ∈ S, w.heap.size ≤ b ∧ Unf w' b) ∧ Same (fun _ => True) w w'

/-! ### The abstract state -/

inductive A where
  | v (x : Value)
  | nl
  | ro (sz : Nat) (es : List Rec)
  | rp (rec : Rec) (j : Nat)
  | pt (r j : Nat)
  | pn (r j ver iv : Nat) (p : List (Nat × Nat))
  | vw (r j ver lo n : Nat)
  | vn (r j ver iv : Nat) (p : List (Nat × Nat)) (lo n : Nat)
  | un

inductive R where
  | one (a : A)
  | agg (as : List A)
  | tup (rs : List R)

inductive H where
  | own (l : L)
  | ro (l : L)
  | gone

structure Hv where
  ver : Nat
  iv : Nat
  org : Option Nat
  c : H

inductive Loc where
  | reg (d : Nat)
  | leaf (r j : Nat)
  | meta_ (r : Nat)
deriving DecidableEq

inductive Val where
  | r (x : R)
  | h (x : Hv)
  | m (k : Nat) (box : Bool)

abbrev Gm := Loc → Option Val

inductive W where
  | reg (d : Nat) (x : R)
  | leaf (r j : Nat) (x : Hv)
  | root (r : Nat) (box : Bool) (hs : List Hv)

def W.app (g : Gm) : W → Gm
  | .reg d x, l => if l = .reg d then some (.r x) else g l
  | .leaf r j x, l => if l = .leaf r j then some (.h x) else g l
  | .root r box hs, l => match l with
    | .meta_ r' => if r' = r then some (.m hs.length box) else g l
    | .leaf r' j => if r' = r then (hs[j]?).map .h else g l
    | l => g l

def apps (g : Gm) : List W → Gm
  | [] => g
  | x :: xs => apps (x.app g) xs

/-! ### Reads -/

inductive Rd (α : Type) where
  | fail
  | ret (a : α)
  | get (l : Loc) (k : Option Val → Rd α)
  | req (c : Prop) (k : Rd α)
  | br (b : Bool) (k1 k2 : Rd α)

def Rd.bind {α β : Type} : Rd α → (α → Rd β) → Rd β
  | .fail, _ => .fail
  | .ret a, f => f a
  | .get l k, f => .get l fun x => (k x).bind f
  | .req c k, f => .req c (k.bind f)
  | .br b k1 k2, f => .br b (k1.bind f) (k2.bind f)

/-- It yields a, having read the places ls. -/
def Rd.Runs {α : Type} (g : Gm) : Rd α → List Loc → α → Prop
  | .fail, _, _ => False
  | .ret a, ls, b => ls = [] ∧ b = a
  | .get l k, ls, b => ∃ ls', ls = l :: ls' ∧ (k (g l)).Runs g ls' b
  | .req c k, ls, b => c ∧ k.Runs g ls b
  | .br c k1 k2, ls, b => (c = true ∧ k1.Runs g ls b) ∨ (c = false ∧ k2.Runs g ls b)

/-- The condition under which it yields something that meets K. -/
def Rd.wp {α : Type} (g : Gm) : Rd α → (α → Prop) → Prop
  | .fail, _ => False
  | .ret a, K => K a
  | .get l k, K => (k (g l)).wp g K
  | .req c k, K => c ∧ k.wp g K
  | .br c k1 k2, K => (c = true → k1.wp g K) ∧ (c = false → k2.wp g K)

/-- The same, with the places that were read. -/
def Rd.wpT {α : Type} (g : Gm) : Rd α → List Loc → (List Loc → α → Prop) → Prop
  | .fail, _, _ => False
  | .ret a, t, K => K t.reverse a
  | .get l k, t, K => (k (g l)).wpT g (l :: t) K
  | .req c k, t, K => c ∧ k.wpT g t K
  | .br c k1 k2, t, K => (c = true → k1.wpT g t K) ∧ (c = false → k2.wpT g t K)

/-! ### Types -/

structure TI where
  agg : Bool
  slots : List (Option Nat)
  zero : Rec

def slots (P : Program) : Nat → TypeId → Option (List (Option Nat))
  | 0, _ => none
  | f + 1, t => match P.underlying t with
    | some (.int _) | some .bool | some .string => some [none]
    | some (.slice e) => (P.info? e).map fun i => [some i.size]
    | some (.struct fs) => fs.toList.foldr (fun fd acc => match slots P f fd.type, acc with
        | some a, some b => some (a ++ b)
        | _, _ => none) (some [])
    | _ => none

def zipZ : List (Option Nat) → List Value → Option Rec
  | [], [] => some []
  | none :: ss, x :: xs => if scal x then (zipZ ss xs).map (.v x :: ·) else none
  | some sz :: ss, .slice none 0 0 :: xs => (zipZ ss xs).map (.s sz [] :: ·)
  | _, _ => none

def tyI (P : Program) (t : TypeId) : Option TI :=
  match P.info? t, P.underlying t, slots P 8 t with
  | some i, some d, some sl => match i.zero with
    | some z => match zipZ sl z.cells.toList with
      | some zr => if zr.length = i.size then some ⟨(match d with | .struct _ => true | _ => false), sl, zr⟩ else none
      | none => none
    | none => none
  | _, _, _ => none

/-- Of a slice's type: its elements' type, what that is, its bytes. -/
def elI (P : Program) (t : TypeId) : Option (TypeId × TI × Nat) :=
  match P.underlying t with
  | some (.slice e) => match tyI P e, P.info? e with
    | some ti, some i => if 0 < i.size then some (e, ti, i.bytes) else none
    | _, _ => none
  | _ => none

/-- Of a struct's field: its first cell. -/
def fdI (P : Program) (s : TypeId) (f : Nat) : Option Nat :=
  match P.underlying s with
  | some (.struct fs) => match fs[f]? with
    | some fd => match P.info? fd.type with
      | some i => if i.size = 0 then none else some fd.offset
      | none => none
    | none => none
  | _ => none

/-! ### Paths in a tree -/

def getR : L → List (Nat × Nat) → Option (Rec × Nat)
  | .s _ es, [(i, j)] => (es[i]?).map (·, j)
  | .s _ es, (i, j) :: p => match es[i]? with
    | some rec => match rec[j]? with
      | some l => getR l p
      | none => none
    | none => none
  | _, _ => none

def setR : L → List (Nat × Nat) → Rec → L
  | .s sz es, [(i, j)], new => .s sz (es.set i ((es.getD i []).take j ++ new ++ (es.getD i []).drop (j + new.length)))
  | .s sz es, (i, j) :: p, new => .s sz (es.set i ((es.getD i []).set j (setR ((es.getD i []).getD j .g) p new)))
  | l, _, _ => l

/-- The path's last leaf, moved on. -/
def adv : List (Nat × Nat) → Nat → List (Nat × Nat)
  | [], _ => []
  | [(i, j)], o => [(i, j + o)]
  | x :: y :: p, o => x :: adv (y :: p) o

end Go.V
