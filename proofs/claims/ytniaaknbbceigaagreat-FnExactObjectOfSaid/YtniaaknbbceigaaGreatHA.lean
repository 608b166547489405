/-
  Plain facts about rows, pages, slots and heaps.
-/
import Derived.Test.YtniaaknbbceigaaGreatVE
set_option linter.all false
namespace Go.V
theorem FV {n : Int} (h : IntKind.has .i64 n) : -9223372036854775808 <= n /\ n <= 9223372036854775807 := h
theorem bK {i : Int} (h0 : 0 <= i) (h1 : i < 9223372036854775807) : bu .add .i64 i 1 = i + 1 := bG (by omega)
def inR (x a b : Int) : Bool := decide (a <= x) && decide (x <= b)
theorem bc {x a b : Int} : inR x a b = true ↔ a <= x /\ x <= b := by simp [inR]
theorem ji {x a b : Int} : inR x a b = false ↔ x < a \/ b < x := by
 cases h : inR x a b
 ·simp only [true_iff]; unfold inR at h; simp only [Bool.and_eq_false_iff, decide_eq_false_iff_not] at h; omega
 ·rw [bc] at h; constructor
  ·intro q; cases q
  ·omega
def bE (p : Int -> Bool) (n : Nat) : Bool := (List.range n).all fun j => p (j : Int)
def upto (p : Int -> Bool) (i : Int) : Prop := ∀ j : Int, 0 <= j -> j < i -> p j = true
theorem aG {p : Int -> Bool} : upto p 0 := fun j h0 h1 => absurd h1 (by omega)
theorem aw {p : Int -> Bool} {i : Int} (h : upto p i) (hp : p i = true) : upto p (i + 1) := fun j h0 h1 => by
 by_cases q : j = i
 ·subst q; exact hp
 ·exact h j h0 (by omega)
theorem cB {p : Int -> Bool} {n : Nat} : bE p n = true ↔ upto p n := by
 simp only [bE, List.all_eq_true, List.mem_range];exact ⟨fun h j h0 h1 => by have := h j.toNat (by omega); rwa [Int.toNat_of_nonneg h0] at this, fun h x hx => h x (by omega) (by omega)⟩
theorem aM {p : Int -> Bool} {n : Nat} {i : Int} (h : upto p i) (hi : (n : Int) <= i) : bE p n = true := cB.2 fun j h0 h1 => h j h0 (by omega)
theorem aZ {p : Int -> Bool} {n : Nat} {i : Int} (h0 : 0 <= i) (h : i < n) (hp : p i = false) : bE p n = false := by
 cases q : bE p n
 ·rfl
 ·rw [cB.1 q i h0 h] at hp; cases hp
theorem cR {a b : Bool} (h : a = true ↔ b = true) : a = b := by cases a <;> cases b <;> simp_all
theorem af {a b : Bool} (h : a = b) : [DV.one (.v (.bool a))] = [DV.one (.v (.bool b))] := by rw [h]
def fW (cs us : List (List L)) (i k : Int) : Bool := inR (ab (ay cs i 0) k 0) 0 999 && (rH us i 0 || decide (ab (ay cs i 0) k 0 = 0))
def dG (cs us : List (List L)) (i : Int) : Bool := decide ((ay cs i 0).length = 16) && bE (fW cs us i) 16
def framesOk (cs us : List (List L)) : Bool := inR cs.length 1 32 && decide (us.length = cs.length) && bE (dG cs us) cs.length
def hE (es : List (List L)) (fr i : Int) : Bool := inR (ab es i 0) 0 2 && decide (ab es i 0 = 0 -> ab es i 1 = 0) && decide (0 < ab es i 0 -> 0 <= ab es i 1 /\ ab es i 1 < fr)
def tableOk (es : List (List L)) (fr : Int) : Bool := bE (hE es fr) es.length && inR es.length 1 32
def qq (es : List (List L)) (f : Int) : Nat -> List (List L)
 | 0 => []
 | n + 1 => if ab es n 0 ≠ 0 /\ ab es n 1 = f then qq es f n ++ [[.v (.int .i64 n)]] else qq es f n
def pagesOn (es : List (List L)) (f : Int) : List (List L) := qq es f es.length
theorem nW {es : List (List L)} {f : Int} : ∀ {n : Nat}, (qq es f n).length <= n
 | 0 => Nat.zero_le _
 | n + 1 => by
   have := nW (es := es) (f := f) (n := n);unfold qq; split
   ·rw [List.length_append]; simp; omega
   ·omega
theorem xU {es : List (List L)} {f : Int} {n : Nat} (h0 : ab es n 0 ≠ 0) (h1 : ab es n 1 = f) : qq es f (n + 1) = qq es f n ++ [[.v (.int .i64 n)]] := by rw [qq, if_pos ⟨h0, h1⟩]
theorem Bd {es : List (List L)} {f : Int} {n : Nat} (h : ab es n 0 = 0 \/ ab es n 1 ≠ f) : qq es f (n + 1) = qq es f n := by rw [qq, if_neg (by rintro ⟨a, b⟩; rcases h with q | q; exact a q; exact q b)]
theorem xT {es : List (List L)} {f i : Int} (hi : 0 <= i) (h0 : ab es i 0 ≠ 0) (h1 : ab es i 1 = f) : qq es f (i + 1).toNat = qq es f i.toNat ++ [[.v (.int .i64 i)]] := by
 have e : ((i.toNat : Nat) : Int) = i := Int.toNat_of_nonneg hi;rw [show (i + 1).toNat = i.toNat + 1 from by omega, xU (by rw [e]; exact h0) (by rw [e]; exact h1), e]
theorem td {es : List (List L)} {f i : Int} (hi : 0 <= i) (h : ab es i 0 = 0 \/ ab es i 1 ≠ f) : qq es f (i + 1).toNat = qq es f i.toNat := by
 have e : ((i.toNat : Nat) : Int) = i := Int.toNat_of_nonneg hi;rw [show (i + 1).toNat = i.toNat + 1 from by omega, Bd (by rw [e]; exact h)]
theorem rR {es : List (List L)} {f : Int} : (pagesOn es f).length <= es.length := nW
def pH (es : List (List L)) (f : Int) : Bool := decide (0 < (pagesOn es f).length)
theorem CS {es : List (List L)} {f : Int} : pH es f = true ↔ 0 < (pagesOn es f).length := by simp [pH]
theorem zO {cs us : List (List L)} (h : inR cs.length 1 32 = false) : framesOk cs us = false := by unfold framesOk; rw [h]; rfl
theorem zP {cs us : List (List L)} (h : us.length ≠ cs.length) : framesOk cs us = false := by unfold framesOk; rw [decide_eq_false h]; simp
theorem zQ {cs us : List (List L)} {i : Int} (h0 : 0 <= i) (h1 : i < cs.length) (h : (ay cs i 0).length ≠ 16) : framesOk cs us = false := by
 unfold framesOk; rw [aZ h0 h1 (by unfold dG; rw [decide_eq_false h]; rfl)]; simp
theorem sJ {cs us : List (List L)} {i k : Int} (h0 : 0 <= i) (h1 : i < cs.length) (k0 : 0 <= k) (k1 : k < 16) (h : inR (ab (ay cs i 0) k 0) 0 999 = false \/ rH us i 0 = false /\ ab (ay cs i 0) k 0 ≠ 0) : framesOk cs us = false := by
 unfold framesOk; rw [aZ h0 h1 (by unfold dG; rw [aZ k0 (by simpa using k1) (by unfold fW; rcases h with q | ⟨q, q'⟩; rw [q]; rfl; rw [q, decide_eq_false q']; simp)]; simp)]; simp
theorem zS {cs us : List (List L)} {i : Int} (h1 : inR cs.length 1 32 = true) (h2 : us.length = cs.length) (h : upto (dG cs us) i) (hi : (cs.length : Int) <= i) : framesOk cs us = true := by
 unfold framesOk; rw [h1, decide_eq_true h2, aM h hi]; rfl
theorem D9 {cs us : List (List L)} {i k : Int} (hl : (ay cs i 0).length = 16) (h : upto (fW cs us i) k) (hk : 16 <= k) : dG cs us i = true := by
 unfold dG; rw [decide_eq_true hl, aM h (by simpa using hk)]; rfl
theorem DO {cs us : List (List L)} {i k : Int} (h : inR (ab (ay cs i 0) k 0) 0 999 = true) (h' : rH us i 0 = true \/ ab (ay cs i 0) k 0 = 0) : fW cs us i k = true := by
 unfold fW; rw [h]; rcases h' with q | q
 ·rw [q]; rfl
 ·rw [decide_eq_true q]; simp
theorem lA {k : Nat} {a b : List (List L)} (h : a = b) : [DV.one (.s k a)] = [DV.one (.s k b)] := by rw [h]
theorem E2 {es : List (List L)} {n i : Int} (h0 : 0 <= i) (h1 : i < es.length) (h : ¬ (0 <= ab es i 0 /\ ab es i 0 <= 2 /\ (ab es i 0 = 0 -> ab es i 1 = 0) /\ (0 < ab es i 0 -> 0 <= ab es i 1 /\ ab es i 1 < n))) : tableOk es n = false := by
 unfold tableOk; rw [aZ h0 h1]; rfl;cases q : hE es n i
 ·rfl
 ·refine absurd ?_ h;unfold hE at q; simp only [Bool.and_eq_true, decide_eq_true_eq, bc] at q;exact ⟨q.1.1.1, q.1.1.2, q.1.2, q.2⟩
theorem E1 {es : List (List L)} {n i : Int} (h : 0 <= ab es i 0 /\ ab es i 0 <= 2 /\ (ab es i 0 = 0 -> ab es i 1 = 0) /\ (0 < ab es i 0 -> 0 <= ab es i 1 /\ ab es i 1 < n)) : hE es n i = true := by
 unfold hE; simp only [Bool.and_eq_true, decide_eq_true_eq, bc];exact ⟨⟨⟨h.1, h.2.1⟩, h.2.2.1⟩, h.2.2.2⟩
theorem BL {es : List (List L)} {n i : Int} (h : upto (hE es n) i) (hi : (es.length : Int) <= i) : tableOk es n = inR es.length 1 32 := by unfold tableOk; rw [aM h hi]; rfl
theorem tC {es : List (List L)} {n : Int} (h : tableOk es n = true) : 1 <= es.length /\ es.length <= 32 := by
 unfold tableOk at h; simp only [Bool.and_eq_true, bc] at h; omega
theorem JL {es : List (List L)} {n i : Int} (h : tableOk es n = true) (h0 : 0 <= i) (h1 : i < es.length) : 0 <= ab es i 0 /\ ab es i 0 <= 2 /\ (ab es i 0 = 0 -> ab es i 1 = 0) /\ (0 < ab es i 0 -> 0 <= ab es i 1 /\ ab es i 1 < n) := by
 unfold tableOk at h; simp only [Bool.and_eq_true] at h;have q := cB.1 h.1 i h0 h1;unfold hE at q; simp only [Bool.and_eq_true, decide_eq_true_eq, bc] at q;exact ⟨q.1.1.1, q.1.1.2, q.1.2, q.2⟩
theorem sI {cs us : List (List L)} (h : framesOk cs us = true) : us.length = cs.length /\ 1 <= cs.length /\ cs.length <= 32 := by
 unfold framesOk at h; simp only [Bool.and_eq_true, decide_eq_true_eq, bc] at h; omega
theorem D8 {cs us : List (List L)} {i : Int} (h : framesOk cs us = true) (h0 : 0 <= i) (h1 : i < cs.length) : (ay cs i 0).length = 16 := by
 unfold framesOk at h; simp only [Bool.and_eq_true, decide_eq_true_eq, bc] at h;have q := cB.1 h.2 i h0 h1;unfold dG at q; simp only [Bool.and_eq_true, decide_eq_true_eq] at q; exact q.1
end Go.V
namespace Go.V
theorem pU {a n : Int} (h0 : 0 <= a) (h1 : a <= 9223372036854775807) (hn : 0 < n) : bu .quo .i64 a n = a / n := by
 show IntKind.wrap .i64 (a.tdiv n) = _;rw [Int.tdiv_eq_ediv_of_nonneg h0];have h2 : 0 <= a / n := Int.ediv_nonneg h0 (by omega);have h3 : a / n <= a := Int.ediv_le_self _ h0;exact IntWalk.i64_in _ (by omega)
theorem uT {a n : Int} (h0 : 0 <= a) : bu .rem .i64 a n = a % n := Int.tmod_eq_emod_of_nonneg h0
theorem xF {a : List (List L)} {f : Int} : bQ .gtr (pagesOn a f).length 0 = pH a f := cR (by rw [CS]; simp only [SS]; omega)
theorem oj {a b a' b' : Int} (h : a = a') (h' : b = b') : [DV.agg [.v (.int .i64 a), .v (.int .i64 b)]] = [DV.agg [.v (.int .i64 a'), .v (.int .i64 b')]] := by rw [h, h']
theorem y7 {a b c a' b' c' : Int} (h : a = a') (h' : b = b') (h'' : c = c') : [DV.agg [.v (.int .i64 a), .v (.int .i64 b)], DV.one (.v (.int .i64 c))] = [DV.agg [.v (.int .i64 a'), .v (.int .i64 b')], DV.one (.v (.int .i64 c'))] := by rw [h, h', h'']
theorem ed {a b a' b' : Int} (h : a = a') (h' : b = b') : [DV.one (.v (.int .i64 a)), DV.one (.v (.int .i64 b))] = [DV.one (.v (.int .i64 a')), DV.one (.v (.int .i64 b'))] := by rw [h, h']
theorem ba {a b : Int} (h : a = b) : [DV.one (.v (.int .i64 a))] = [DV.one (.v (.int .i64 b))] := by rw [h]
def peM (es : List (List L)) (p : Int) : Int := if 0 <= p /\ p < es.length then ab es p 0 else 0
def peF (es : List (List L)) (p : Int) : Int := if 0 <= p /\ p < es.length then ab es p 1 else 0
theorem lq {es : List (List L)} {p : Int} (h : 0 <= p /\ p < es.length) : peM es p = ab es p 0 /\ peF es p = ab es p 1 := by unfold peM peF; rw [if_pos h, if_pos h]; exact ⟨rfl, rfl⟩
theorem uN {es : List (List L)} {p : Int} (h : ¬ (0 <= p /\ p < es.length)) : peM es p = 0 /\ peF es p = 0 := by unfold peM peF; rw [if_neg h, if_neg h]; exact ⟨rfl, rfl⟩
theorem EN {es : List (List L)} {n p : Int} (h : tableOk es n = true) (hm : peM es p ≠ 0) : 0 <= peF es p /\ peF es p < n /\ 1 <= peM es p /\ peM es p <= 2 := by
 by_cases q : 0 <= p /\ p < es.length
 ·rw [(lq q).1] at hm ⊢; rw [(lq q).2];have := JL h q.1 q.2; omega
 ·exact absurd (uN q).1 hm
def leM (es : List (List L)) (a : Int) : Int := if a < 0 then 0 else peM es (a / 16)
def leF (es : List (List L)) (a : Int) : Int := if a < 0 then 0 else peF es (a / 16)
def leK (a : Int) : Int := if a < 0 then 0 else a % 16
theorem lc {es : List (List L)} {a : Int} (h : a < 0) : leM es a = 0 /\ leF es a = 0 /\ leK a = 0 := by unfold leM leF leK; rw [if_pos h, if_pos h, if_pos h]; exact ⟨rfl, rfl, rfl⟩
theorem gd {es : List (List L)} {a : Int} (h : ¬ a < 0) : leM es a = peM es (a / 16) /\ leF es a = peF es (a / 16) /\ leK a = a % 16 := by unfold leM leF leK; rw [if_neg h, if_neg h, if_neg h]; exact ⟨rfl, rfl, rfl⟩
theorem Av {a : Int} : 0 <= leK a /\ leK a < 16 := by unfold leK; split <;> omega
end Go.V
namespace Go.V
theorem iH {es : List (List L)} : es.length <= ao es := Nat.le_add_right _ _
def fy (us es : List (List L)) (i : Int) : Bool := rH us i 0 == pH es i
def machOk (cs us es : List (List L)) : Bool := framesOk cs us && tableOk es cs.length && bE (fy us es) cs.length
theorem uH {cs us es : List (List L)} (h : framesOk cs us = false \/ tableOk es cs.length = false) : machOk cs us es = false := by
 unfold machOk; rcases h with h | h <;> rw [h] <;> simp
theorem AJ {cs us es : List (List L)} (hf : framesOk cs us = true) (h : tableOk es us.length = false) : machOk cs us es = false := by
 rw [(sI hf).1] at h; exact uH (.inr h)
theorem AK {cs us es : List (List L)} {i : Int} (h0 : 0 <= i) (h1 : i < cs.length) (h : rH us i 0 ≠ pH es i) : machOk cs us es = false := by
 unfold machOk; rw [aZ h0 h1 (by unfold fy; simpa using h)]; simp
theorem Ew {us es : List (List L)} {i : Int} (h : rH us i 0 = pH es i) : fy us es i = true := by unfold fy; simpa using h
theorem sW {cs us es : List (List L)} {i : Int} (h : framesOk cs us = true) (h2 : tableOk es us.length = true) (hu : upto (fy us es) i) (hi : (us.length : Int) <= i) : machOk cs us es = true := by
 rw [(sI h).1] at h2 hi;unfold machOk; rw [h, h2, aM hu hi]; rfl
theorem Ey {cs us es : List (List L)} (q : machOk cs us es = true) : framesOk cs us = true /\ tableOk es cs.length = true /\ ∀ i : Int, 0 <= i -> i < cs.length -> rH us i 0 = pH es i := by
 unfold machOk at q; simp only [Bool.and_eq_true] at q;refine ⟨q.1.1, q.1.2, fun i h0 h1 => ?_⟩;have := cB.1 q.2 i h0 h1;unfold fy at this; simpa using this
theorem aP : ∀ {rs : List (List (List L))} {r : List (List L)} {n : Nat}, ag rs <= n -> r ∈ rs -> ao r <= n
 | a :: rs, r, n, h, hr => by
   simp only [ag] at h;rcases List.mem_cons.1 hr with rfl | q
   ·omega
   ·exact aP (rs := rs) (by omega) q
end Go.V
namespace Go.V
end Go.V
namespace Go.V
def smM (cs us es : List (List L)) (a : Int) : Int := if machOk cs us es = true then leM es a else 0
def smF (cs us es : List (List L)) (a : Int) : Int := if machOk cs us es = true then leF es a else 0
theorem lG {cs us es : List (List L)} {a : Int} (h : machOk cs us es = true) : smM cs us es a = leM es a /\ smF cs us es a = leF es a := by unfold smM smF; rw [if_pos h, if_pos h]; exact ⟨rfl, rfl⟩
theorem rY {cs us es : List (List L)} {a : Int} (h : machOk cs us es = false \/ a < 0) : smM cs us es a = 0 /\ smF cs us es a = 0 := by
 unfold smM smF;rcases h with h | h
 ·rw [h]; exact ⟨rfl, rfl⟩
 ·rw [(lc h).1, (lc (es := es) h).2.1]; constructor <;> split <;> rfl
theorem BH {cs us es : List (List L)} {a : Int} (h : smM cs us es a ≠ 0) : machOk cs us es = true /\ 0 <= a := by
 constructor
 ·cases q : machOk cs us es
  ·exact absurd (rY (.inl q)).1 h
  ·rfl
 ·rcases Int.lt_or_le a 0 with q | q
  ·exact absurd (rY (.inr q)).1 h
  ·exact q
theorem JI {cs us es : List (List L)} {a : Int} (h : smM cs us es a ≠ 0) : 0 <= smF cs us es a /\ smF cs us es a < cs.length /\ 1 <= smM cs us es a /\ smM cs us es a <= 2 /\ (ay cs (smF cs us es a) 0).length = 16 := by
 obtain ⟨h0, h1⟩ := BH h;rw [(lG h0).1, (gd (by omega)).1] at h ⊢; rw [(lG h0).2, (gd (by omega)).2.1];have hm := Ey h0;have hp := EN hm.2.1 h;exact ⟨hp.1, hp.2.1, hp.2.2.1, hp.2.2.2, D8 hm.1 hp.1 hp.2.1⟩
def clsSz (k : Int) : Int := if k = 0 then 1 else if k = 1 then 2 else if k = 2 then 4 else if k = 3 then 8 else 0
def clsOf (s : Int) : Int := if s < 1 then -1 else if s <= 1 then 0 else if s <= 2 then 1 else if s <= 4 then 2 else if s <= 8 then 3 else -1
theorem DU {k : Int} (h : inR k 0 3 = false) : clsSz k = 0 := by rw [ji] at h; unfold clsSz; repeat' split <;> omega
theorem zF {k : Int} (h : inR k 0 3 = true) : EZ .shl .i64 1 k = clsSz k := by
 rw [bc] at h;rcases (show k = 0 \/ k = 1 \/ k = 2 \/ k = 3 by omega) with rfl | rfl | rfl | rfl <;> decide
theorem DW {k : Int} (h : inR k 0 3 = true) : Hj .u64 k = k := by
 rw [bc] at h;rcases (show k = 0 \/ k = 1 \/ k = 2 \/ k = 3 by omega) with rfl | rfl | rfl | rfl <;> decide
theorem xi {k s : Int} (h0 : 0 <= k /\ k <= 3) (h : clsSz k < s) (hs : 1 <= s /\ s <= 8) : k + 1 <= 3 := by
 rcases (show k = 0 \/ k = 1 \/ k = 2 \/ k = 3 by omega) with rfl | rfl | rfl | rfl <;> simp [clsSz] at h <;> omega
theorem DR {s : Int} (h : s < 1 \/ 8 < s) : clsOf s = -1 := by unfold clsOf; repeat' split <;> omega
theorem zA {k s : Int} (h0 : 0 <= k /\ k <= 3) (h : s <= clsSz k) (hs : 1 <= s /\ s <= 8) (hp : k = 0 \/ clsSz (k - 1) < s) : clsOf s = k := by
 rcases (show k = 0 \/ k = 1 \/ k = 2 \/ k = 3 by omega) with rfl | rfl | rfl | rfl <;> simp [clsSz] at h hp <;> unfold clsOf <;> repeat' split <;> omega
end Go.V
namespace Go.V
theorem Hs {s : Int} (h : 0 <= clsOf s) : 1 <= s /\ s <= clsSz (clsOf s) /\ clsSz (clsOf s) <= 8 /\ clsOf s <= 3 := by
 unfold clsOf at h ⊢
 repeat' split at h
 all_goals simp_all [clsSz]
 all_goals omega
theorem lr {l : List (List L)} {i : Int} (h0 : 0 <= i) : GB (.s 1 l) [(i.toNat, 0)] = ab l i 0 := by
 rw [Bf]; unfold ab; rw [Int.toNat_natCast]
end Go.V
namespace Go.V
theorem tg {es : List (List L)} {f : Int} : ∀ {n : Nat} {e : (List L)}, e ∈ qq es f n -> ∃ k : Nat, k < n /\ e = [.v (.int .i64 k)]
 | 0, e, h => by cases h
 | n + 1, e, h => by
   unfold qq at h; split at h
   ·rcases List.mem_append.1 h with q | q
    ·obtain ⟨k, hk, e⟩ := tg q; exact ⟨k, by omega, e⟩
    ·rw [List.mem_singleton] at q; exact ⟨n, by omega, q⟩
   ·obtain ⟨k, hk, e⟩ := tg h; exact ⟨k, by omega, e⟩
theorem A8 {es : List (List L)} {f : Int} (h : es.length <= 1099511627776) : Rw [tI] (pagesOn es f) := by
 have hl := rR (es := es) (f := f);refine ⟨by simp [maxLen]; omega, fun e he => ?_⟩;obtain ⟨k, hk, rfl⟩ := tg he;exact ⟨⟨rfl, (show -9223372036854775808 <= (k : Int) /\ (k : Int) <= 9223372036854775807 by omega)⟩, trivial⟩
end Go.V
namespace Go.V
def bW (p : Int -> Bool) (n : Nat) : Int := match (List.range n).find? (fun j : Nat => p (j : Int)) with
 | some j => (j : Int)
 | none => -1
def bP (p : Int -> Bool) (j : Int) : Bool := !p j
theorem eO {p : Int -> Bool} {i : Int} (h : p i = false) : bP p i = true := by unfold bP; rw [h]; rfl
theorem cy {p : Int -> Bool} {n : Nat} {i : Int} (h : upto (bP p) i) (h0 : 0 <= i) (h1 : i < n) (h2 : p i = true) : bW p n = i := by
 have e : ((i.toNat : Nat) : Int) = i := Int.toNat_of_nonneg h0;have : (List.range n).find? (fun j : Nat => p (j : Int)) = some i.toNat := by
  rw [List.find?_range_eq_some];refine ⟨by rw [e]; exact h2, List.mem_range.2 (by omega), fun j hj => ?_⟩;exact h j (by omega) (by omega)
 unfold bW; rw [this]; exact e
theorem cO {p : Int -> Bool} {n : Nat} {i : Int} (h : upto (bP p) i) (h1 : (n : Int) <= i) : bW p n = -1 := by
 have : (List.range n).find? (fun j : Nat => p (j : Int)) = none := by
  rw [List.find?_range_eq_none];intro j hj;exact h j (by omega) (by omega)
 unfold bW; rw [this]
theorem ka {p : Int -> Bool} {n : Nat} : bW p n = -1 \/ 0 <= bW p n /\ bW p n < n := by
 unfold bW;split
 ·rename_i j h;rw [List.find?_range_eq_some] at h;have := List.mem_range.1 h.2.1;omega
 ·exact .inl rfl
def eqB (a b : Int) : Bool := decide (a = b)
theorem lW {a b : Int} (h : a = b) : eqB a b = true := decide_eq_true h
theorem lV {a b : Int} (h : a ≠ b) : eqB a b = false := decide_eq_false h
end Go.V
namespace Go.V
def isSp (ss : List (List L)) (p j : Int) : Bool := eqB (ab ss j 0) p
def spI (ss : List (List L)) (p : Int) : Int := bW (isSp ss p) ss.length
end Go.V
namespace Go.V
def fpg (es : List (List L)) (p : Int) : List (List L) := if peM es p = 0 then [] else pagesOn es (peF es p)
theorem vQ {es : List (List L)} {p : Int} (h : peM es p = 0) : fpg es p = [] := by unfold fpg; rw [if_pos h]
theorem sH {es : List (List L)} {p : Int} (h : peM es p ≠ 0) : fpg es p = pagesOn es (peF es p) := by unfold fpg; rw [if_neg h]
theorem FA {es : List (List L)} {p : Int} (h : es.length <= 1099511627776) : Rw [tI] (fpg es p) /\ (fpg es p).length <= 1099511627776 := by
 unfold fpg; split
 ·exact ⟨Rw.nil, by simp⟩
 ·exact ⟨A8 h, Nat.le_trans rR h⟩
def Ej (l : List (List L)) (x j : Int) : Bool := eqB x (ab l j 0)
def FU (l : List (List L)) (x : Int) : Int := bW (Ej l x) l.length
def hasB (l : List (List L)) (x : Int) : Bool := decide (0 <= FU l x)
theorem xk {l : List (List L)} {x : Int} : hasB l x = true ↔ ∃ k : Nat, k < l.length /\ ab l k 0 = x := by
 unfold hasB FU;rw [decide_eq_true_eq]
 constructor
 ·intro h;unfold bW at h;split at h
  ·rename_i j hj;rw [List.find?_range_eq_some] at hj;refine ⟨j, List.mem_range.1 hj.2.1, ?_⟩;have := hj.1;unfold Ej eqB at this;exact (of_decide_eq_true this).symm
  ·omega
 ·rintro ⟨k, hk, e⟩;rcases ka (p := Ej l x) (n := l.length) with q | q
  ·exfalso;unfold bW at q;split at q
   ·omega
   ·rename_i hn;rw [List.find?_range_eq_none] at hn;have := hn k hk;unfold Ej eqB at this;rw [e] at this; simp at this
  ·exact q.1
end Go.V
namespace Go.V
def slB (b i : Int) : Bool := decide (0 <= b) && inR i 0 15
def hsB (b i : Int) : Bool := slB b i && decide (bu .and .i64 (EZ .shr .i64 b i) 1 = 1)
theorem JH {b i : Int} : slB b i = true ↔ 0 <= b /\ 0 <= i /\ i <= 15 := by simp [slB, inR]
theorem Eh {b i : Int} (h : slB b i = false) : hsB b i = false := by unfold hsB; rw [h]; rfl
theorem Ac {b i : Int} (h : slB b i = true) (q : bu .and .i64 (EZ .shr .i64 b i) 1 = 1) : hsB b i = true := by unfold hsB; rw [h, decide_eq_true q]; rfl
theorem Ab {b i : Int} (q : bu .and .i64 (EZ .shr .i64 b i) 1 ≠ 1) : hsB b i = false := by unfold hsB; rw [decide_eq_false q]; simp
theorem vt {i : Int} (h0 : 0 <= i) (h1 : i <= 15) : Hj .u64 i = i := by
 show IntKind.wrap .u64 i = i;simp only [IntKind.wrap, IntKind.bits, IntKind.signed, Bool.false_and];rw [if_neg (by simp)]; omega
end Go.V
namespace Go.V
def uM (rs : List (List L)) (i : Int) : Bool := decide (0 <= ab rs i 0)
def jm (rs : List (List L)) : Bool := bE (uM rs) rs.length && decide (rs.length <= 40)
def kerOk (cs us es : List (List L)) (c : Int) (rs : List (List L)) : Bool := machOk cs us es && inR c 0 100000 && jm rs
theorem Bp {rs : List (List L)} {i : Int} (h : 0 <= ab rs i 0) : uM rs i = true := decide_eq_true h
theorem Bq {cs us es rs : List (List L)} {c i : Int} (h0 : 0 <= i) (h1 : i < rs.length) (h : ab rs i 0 < 0) : kerOk cs us es c rs = false := by
 unfold kerOk jm; rw [aZ h0 h1 (by unfold uM; exact decide_eq_false (by omega))]; simp
theorem nY {rs : List (List L)} {i : Int} (h : upto (uM rs) i) (hi : (rs.length : Int) <= i) (hl : (rs.length : Int) <= 40) : jm rs = true := by
 unfold jm; rw [aM h hi, decide_eq_true (by omega)]; rfl
theorem x8 {rs : List (List L)} (hl : ¬ (rs.length : Int) <= 40) : jm rs = false := by
 unfold jm; rw [decide_eq_false (by omega)]; simp
theorem xx {cs us es rs : List (List L)} {c : Int} (h1 : machOk cs us es = true) (h2 : inR c 0 100000 = true) (h3 : jm rs = true) : kerOk cs us es c rs = true := by unfold kerOk; rw [h1, h2, h3]; rfl
theorem xt {cs us es rs : List (List L)} {c : Int} (h1 : machOk cs us es = false) : kerOk cs us es c rs = false := by unfold kerOk; rw [h1]; rfl
theorem xu {cs us es rs : List (List L)} {c : Int} (h1 : inR c 0 100000 = false) : kerOk cs us es c rs = false := by unfold kerOk; rw [h1]; simp
theorem xv {cs us es rs : List (List L)} {c : Int} (h1 : jm rs = false) : kerOk cs us es c rs = false := by unfold kerOk; rw [h1]; simp
end Go.V
namespace Go.V
def slN (k : Int) : Int := if inR k 0 3 = true then 16 / clsSz k else 0
theorem Cz {k : Int} (h : inR k 0 3 = true) : k = 0 \/ k = 1 \/ k = 2 \/ k = 3 := by have := bc.1 h; omega
theorem eG {k : Int} (h : inR k 0 3 = true) : 1 <= clsSz k /\ clsSz k <= 8 /\ 2 <= slN k /\ slN k <= 16 /\ slN k * clsSz k = 16 := by
 rcases Cz h with rfl | rfl | rfl | rfl <;> decide
theorem BF {k : Int} (h : inR k 0 3 = true) : bu .quo .i64 16 (clsSz k) = slN k := by
 rcases Cz h with rfl | rfl | rfl | rfl <;> decide
theorem BG {k : Int} (h : inR k 0 3 = true) : EZ .shr .i64 16 (Hj .u64 k) = slN k := by
 rcases Cz h with rfl | rfl | rfl | rfl <;> decide
theorem wA {k : Int} (h : inR k 0 3 = false) : slN k = 0 := by unfold slN; rw [h]; rfl
def bmOk (n b : Int) : Bool := inR n 1 16 && inR b 0 (2 ^ n.toNat - 1)
theorem BE {n : Int} (h : inR n 1 16 = true) : bu .sub .i64 (EZ .shl .i64 1 n) 1 = 2 ^ n.toNat - 1 /\ bu .sub .i64 (EZ .shl .i64 1 (Hj .u64 n)) 1 = 2 ^ n.toNat - 1 /\ 0 <= Hj .u64 n := by
 have q := bc.1 h;have : n = 1 \/ n = 2 \/ n = 3 \/ n = 4 \/ n = 5 \/ n = 6 \/ n = 7 \/ n = 8 \/ n = 9 \/ n = 10 \/ n = 11 \/ n = 12 \/ n = 13 \/ n = 14 \/ n = 15 \/ n = 16 := by omega
 rcases this with rfl | rfl | rfl | rfl | rfl | rfl | rfl | rfl | rfl | rfl | rfl | rfl | rfl | rfl | rfl | rfl <;> decide
theorem DC {n b : Int} (h : inR n 1 16 = false) : bmOk n b = false := by unfold bmOk; rw [h]; rfl
theorem zg {n b : Int} (h : inR n 1 16 = true) : bmOk n b = inR b 0 (2 ^ n.toNat - 1) := by unfold bmOk; rw [h]; rfl
def spOk (p k b : Int) : Bool := inR p 0 31 && bmOk (slN k) b
theorem zf {k b : Int} (h : inR k 0 3 = false) : bmOk (slN k) b = false := by rw [wA h]; rfl
theorem BJ {p k b : Int} (h : inR p 0 31 = false) : spOk p k b = false := by unfold spOk; rw [h]; rfl
theorem GO {p k b : Int} (h : inR k 0 3 = false) : spOk p k b = false := by unfold spOk; rw [zf h, Bool.and_false]
theorem BK {p k b : Int} (h : inR p 0 31 = true) : spOk p k b = bmOk (slN k) b := by unfold spOk; rw [h]; rfl
theorem fP {p k b : Int} (h : spOk p k b = true) : 0 <= p /\ p <= 31 /\ inR k 0 3 = true /\ bmOk (slN k) b = true := by
 unfold spOk at h; simp only [Bool.and_eq_true, bc] at h;refine ⟨h.1.1, h.1.2, ?_, h.2⟩;cases q : inR k 0 3
 ·rw [zf q] at h; exact absurd h.2 (by decide)
 ·rfl
def pfN (s : Int) : Int := if inR s 9 1000 = true then (s + 15) / 16 else 0
theorem Bc {s : Int} (h : inR s 9 1000 = true) : bu .quo .i64 (bu .sub .i64 (bu .add .i64 s 16) 1) 16 = pfN s := by
 have q := bc.1 h;have e1 : bu .add .i64 s 16 = s + 16 := bG (by omega);have e2 : bu .sub .i64 (s + 16) 1 = s + 16 - 1 := ce (by omega);unfold pfN; rw [if_pos h, e1, e2, pU (by omega) (by omega) (by omega), show s + 16 - 1 = s + 15 from by omega]
theorem Ba {s : Int} (h : inR s 9 1000 = false) : pfN s = 0 := by unfold pfN; rw [h]; rfl
theorem eW {s : Int} (h : inR s 9 1000 = true) : 1 <= pfN s /\ pfN s <= 63 /\ s <= pfN s * 16 := by
 have q := bc.1 h;unfold pfN; rw [if_pos h]; omega
theorem Bb {s : Int} : 0 < pfN s ↔ inR s 9 1000 = true := by
 constructor
 ·intro h;cases q : inR s 9 1000
  ·rw [Ba q] at h; omega
  ·rfl
 ·intro h; have := eW h; omega
def lgOk (p n s : Int) : Bool := inR s 9 1000 && (decide (n = pfN s) && inR p 0 (32 - n))
theorem AA {p n s : Int} (h : inR s 9 1000 = false) : lgOk p n s = false := by unfold lgOk; rw [h]; rfl
theorem AB {p n s : Int} (h : n ≠ pfN s) : lgOk p n s = false := by unfold lgOk; rw [decide_eq_false h]; simp
theorem AC {p n s : Int} (h : inR s 9 1000 = true) (h2 : n = pfN s) : lgOk p n s = inR p 0 (32 - n) := by unfold lgOk; rw [h, decide_eq_true h2]; rfl
theorem eV {p n s : Int} (h : lgOk p n s = true) : inR s 9 1000 = true /\ n = pfN s /\ 0 <= p /\ p <= 32 - n := by
 unfold lgOk at h; simp only [Bool.and_eq_true, decide_eq_true_eq, bc] at h;exact ⟨bc.2 h.1, h.2.1, h.2.2⟩
def vA (p k b a : Int) : Bool := spOk p k b && inR a (p * 16) (p * 16 + 15)
def saS (p k b a : Int) : Int := if vA p k b a = true then (a - p * 16) / clsSz k else -1
def saO (p k b a : Int) : Int := if vA p k b a = true then (a - p * 16) % clsSz k else -1
theorem rW {p k b a : Int} (h : vA p k b a = false) : saS p k b a = -1 /\ saO p k b a = -1 := by unfold saS saO; rw [h]; exact ⟨rfl, rfl⟩
theorem p7 {p k b a : Int} (h : vA p k b a = true) : saS p k b a = (a - p * 16) / clsSz k /\ saO p k b a = (a - p * 16) % clsSz k := by unfold saS saO; rw [if_pos h, if_pos h]; exact ⟨rfl, rfl⟩
theorem tt {p k b a : Int} : vA p k b a = true ↔ spOk p k b = true /\ p * 16 <= a /\ a <= p * 16 + 15 := by unfold vA; rw [Bool.and_eq_true, bc]
def Fl (p k b s : Int) : Bool := spOk p k b && inR s 0 (slN k - 1)
def aaI (p k b s : Int) : Int := if Fl p k b s = true then p * 16 + s * clsSz k else -1
def lhB (p n s a : Int) : Bool := lgOk p n s && inR a (p * 16) (p * 16 + s - 1)
def loI (p n s a : Int) : Int := if lhB p n s a = true then a - p * 16 else -1
theorem AE {p n s a : Int} (h : lgOk p n s = false) : lhB p n s a = false := by unfold lhB; rw [h]; rfl
theorem v7 {p n s a : Int} (h : lgOk p n s = true) : lhB p n s a = inR a (p * 16) (p * 16 + s - 1) := by unfold lhB; rw [h]; rfl
theorem Et {p n s a : Int} (h : lhB p n s a = false) : loI p n s a = -1 := by unfold loI; rw [h]; rfl
theorem Gi {p n s a : Int} (h : lhB p n s a = true) : loI p n s a = a - p * 16 := by unfold loI; rw [if_pos h]
theorem wg {a b : Int} (h : -9223372036854775808 <= a * b /\ a * b <= 9223372036854775807) : bu .mul .i64 a b = a * b := IntWalk.i64_in _ h
theorem I0 {p : Int} (h : 0 <= p /\ p <= 31) : bu .mul .i64 p 16 = p * 16 /\ bu .sub .i64 (bu .add .i64 (p * 16) 16) 1 = p * 16 + 15 := by
 have e1 : bu .mul .i64 p 16 = p * 16 := wg (by omega);have e2 : bu .add .i64 (p * 16) 16 = p * 16 + 16 := bG (by omega);have e3 : bu .sub .i64 (p * 16 + 16) 1 = p * 16 + 16 - 1 := ce (by omega);rw [e1, e2, e3]; omega
theorem Dc {p k b a : Int} (h : spOk p k b = true) (h1 : inR a (p * 16) (p * 16 + 15) = true) : saS p k b a = bu .quo .i64 (bu .sub .i64 a (p * 16)) (clsSz k) /\ saO p k b a = bu .rem .i64 (bu .sub .i64 a (p * 16)) (clsSz k) := by
 have t := fP h;have q := bc.1 h1;have c := eG t.2.2.1;have y := p7 (tt.2 ⟨h, q⟩);have e : bu .sub .i64 a (p * 16) = a - p * 16 := ce (by omega);rw [y.1, y.2, e, pU (by omega) (by omega) (by omega), uT (by omega)]; exact ⟨rfl, rfl⟩
theorem EX {p k b a : Int} (h : spOk p k b = false) : vA p k b a = false := by unfold vA; rw [h]; rfl
theorem JC {p k b a : Int} (h : inR a (p * 16) (p * 16 + 15) = false) : vA p k b a = false := by unfold vA; rw [h, Bool.and_false]
theorem Dd {p k b a : Int} (h : spOk p k b = true) (h0 : ¬ a < 0) (h1 : bu .quo .i64 a 16 = p) (ha : a <= 9223372036854775807) : saS p k b a = bu .quo .i64 (bu .rem .i64 a 16) (clsSz k) /\ saO p k b a = bu .rem .i64 (bu .rem .i64 a 16) (clsSz k) := by
 have t := fP h;have c := eG t.2.2.1;rw [pU (by omega) ha (by omega)] at h1;have e : bu .rem .i64 a 16 = a % 16 := uT (by omega);have y := p7 (tt.2 ⟨h, show p * 16 <= a /\ a <= p * 16 + 15 by omega⟩);rw [y.1, y.2, e, pU (by omega) (by omega) (by omega), uT (by omega), show a - p * 16 = a % 16 by omega]; exact ⟨rfl, rfl⟩
theorem EY {p k b a : Int} (h0 : a < 0 \/ bu .quo .i64 a 16 ≠ p) (ha : a <= 9223372036854775807) : vA p k b a = false := by
 cases q : vA p k b a
 ·rfl
 ·obtain ⟨h, h1⟩ := tt.1 q;have t := fP h;rcases h0 with h0 | h0
  ·omega
  ·rw [pU (by omega) ha (by omega)] at h0; omega
theorem Fo {p k b s : Int} (h : spOk p k b = true) (h1 : inR s 0 (slN k - 1) = true) : bu .add .i64 (bu .mul .i64 p 16) (bu .mul .i64 s (clsSz k)) = aaI p k b s := by
 have t := fP h;have c := eG t.2.2.1;have q := bc.1 h1;have m1 : 0 <= s * clsSz k := Int.mul_nonneg q.1 (by omega);have m2 : s * clsSz k <= (slN k - 1) * clsSz k := Int.mul_le_mul_of_nonneg_right q.2 (by omega);have m3 : (slN k - 1) * clsSz k = 16 - clsSz k := by rw [Int.sub_mul, c.2.2.2.2, Int.one_mul]
 have e : bu .mul .i64 s (clsSz k) = s * clsSz k := wg (by omega);rw [(I0 ⟨t.1, t.2.1⟩).1, e];unfold aaI Fl; rw [h, h1];exact bG (by omega)
theorem Dy {p k b s : Int} (h : spOk p k b = false \/ inR s 0 (slN k - 1) = false) : aaI p k b s = -1 := by
 unfold aaI Fl;rcases h with h | h
 ·rw [h]; rfl
 ·rw [h, Bool.and_false]; rfl
theorem AD {p n s : Int} (h : lgOk p n s = true) : bu .mul .i64 p 16 = p * 16 /\ bu .add .i64 (bu .mul .i64 p 16) s = p * 16 + s /\ bu .sub .i64 (bu .add .i64 (bu .mul .i64 p 16) s) 1 = p * 16 + s - 1 := by
 have t := eV h;have b := eW t.1;have q := bc.1 t.1;have e1 : bu .mul .i64 p 16 = p * 16 := wg (by omega);have e2 : bu .add .i64 (p * 16) s = p * 16 + s := bG (by omega);have e3 : bu .sub .i64 (p * 16 + s) 1 = p * 16 + s - 1 := ce (by omega);rw [e1, e2, e3]; exact ⟨rfl, rfl, rfl⟩
theorem Gd {p n s a : Int} : lhB p n s a = true ↔ lgOk p n s = true /\ p * 16 <= a /\ a <= p * 16 + s - 1 := by unfold lhB; rw [Bool.and_eq_true, bc]
theorem Es {p n s a : Int} (h : lhB p n s a = true) : bu .sub .i64 a (bu .mul .i64 p 16) = loI p n s a := by
 obtain ⟨h1, h2, h3⟩ := Gd.1 h;have t := eV h1;have b := eW t.1;have q := bc.1 t.1;rw [(AD h1).1, Gi h];exact ce (by omega)
end Go.V
namespace Go.V
def dX (l : List Int) : List (List L) := l.map fun x => [.v (.int .i64 x)]
theorem bC {l : List Int} : (dX l).length = l.length := by unfold dX; rw [List.length_map]
theorem dq {a b : List Int} : dX (a ++ b) = dX a ++ dX b := by unfold dX; rw [List.map_append]
theorem lC {l : List Int} {k : Nat} (h : k < l.length) : ab (dX l) k 0 = l[k] := by
 have e : (dX l).getD k [] = [.v (.int .i64 l[k])] := by
  unfold dX; rw [List.getD_eq_getElem?_getD, List.getElem?_map, List.getElem?_eq_getElem h]; rfl
 unfold ab;rw [Int.toNat_natCast, e]; rfl
theorem iG {l : List Int} {x : Int} : hasB (dX l) x = true ↔ x ∈ l := by
 rw [xk]
 constructor
 ·rintro ⟨k, hk, e⟩;rw [bC] at hk;rw [lC hk] at e;rw [<- e]; exact List.getElem_mem hk
 ·intro h;obtain ⟨k, hk, e⟩ := List.getElem_of_mem h;exact ⟨k, by rw [bC]; exact hk, by rw [lC hk]; exact e⟩
theorem nR {l : List Int} {x : Int} (h : hasB (dX l) x = false) : x ∉ l := fun m => by rw [iG.2 m] at h; cases h
theorem lD {l : List Int} (h : ∀ x ∈ l, -9223372036854775808 <= x /\ x <= 9223372036854775807) (hl : l.length <= 70368744177664) : Rw [tI] (dX l) := by
 refine ⟨by rw [bC]; unfold maxLen; omega, fun e he => ?_⟩;obtain ⟨x, hx, rfl⟩ := List.mem_map.1 he;have q := h x hx;exact ⟨⟨rfl, by show -9223372036854775808 <= x /\ x <= (9223372036854775807 : Int); exact q⟩, trivial⟩
theorem FB {l : List (List L)} {x i : Int} (h : upto (bP (Ej l x)) i) (hi : (l.length : Int) <= i) : hasB l x = false := by
 unfold hasB FU; rw [cO h hi]; rfl
def E0 (sp : List (List L)) (i : Int) : Bool := spOk (ab sp i 0) (ab sp i 1) (ab sp i 2)
def Gc (lg : List (List L)) (i : Int) : Bool := lgOk (ab lg i 0) (ab lg i 1) (ab lg i 2)
def fD (sp : List (List L)) : Nat -> List Int
 | 0 => []
 | n + 1 => fD sp n ++ [ab sp n 0]
def iN (p : Int) : Nat -> List Int
 | 0 => []
 | n + 1 => iN p n ++ [p + n]
def fC (lg : List (List L)) : Nat -> List Int
 | 0 => []
 | n + 1 => fC lg n ++ iN (ab lg n 0) (ab lg n 1).toNat
def rc (sp lg : List (List L)) : List Int := fD sp sp.length ++ fC lg lg.length
def layOk (sp lg : List (List L)) : Bool := (bE (E0 sp) sp.length && bE (Gc lg) lg.length) && decide (rc sp lg).Nodup
theorem iu {sp : List (List L)} {i : Int} (h : 0 <= i) : fD sp (i + 1).toNat = fD sp i.toNat ++ [ab sp i 0] := by
 rw [show (i + 1).toNat = i.toNat + 1 from by omega, fD, Int.toNat_of_nonneg h]
theorem jG {lg : List (List L)} {i : Int} (h : 0 <= i) : fC lg (i + 1).toNat = fC lg i.toNat ++ iN (ab lg i 0) (ab lg i 1).toNat := by
 rw [show (i + 1).toNat = i.toNat + 1 from by omega, fC, Int.toNat_of_nonneg h]
theorem pT {p i : Int} (h : 0 <= i) : iN p (i + 1).toNat = iN p i.toNat ++ [p + i] := by
 rw [show (i + 1).toNat = i.toNat + 1 from by omega, iN, Int.toNat_of_nonneg h]
theorem iQ {sp : List (List L)} : ∀ {n : Nat}, (fD sp n).length = n
 | 0 => rfl
 | n + 1 => by rw [fD, List.length_append, iQ]; rfl
theorem kx {p : Int} : ∀ {n : Nat}, (iN p n).length = n
 | 0 => rfl
 | n + 1 => by rw [iN, List.length_append, kx]; rfl
theorem yj {sp : List (List L)} : ∀ (m n : Nat), n <= m -> ∃ r, fD sp m = fD sp n ++ r
 | 0, n, h => ⟨[], by rw [show n = 0 by omega]; rfl⟩
 | m + 1, n, h => by
   by_cases c : n = m + 1
   ·subst c; exact ⟨[], by simp⟩
   ·obtain ⟨r, e⟩ := yj (sp := sp) m n (by omega);exact ⟨r ++ [ab sp m 0], by rw [fD, e, List.append_assoc]⟩
theorem xY {p : Int} : ∀ (m n : Nat), n <= m -> ∃ r, iN p m = iN p n ++ r
 | 0, n, h => ⟨[], by rw [show n = 0 by omega]; rfl⟩
 | m + 1, n, h => by
   by_cases c : n = m + 1
   ·subst c; exact ⟨[], by simp⟩
   ·obtain ⟨r, e⟩ := xY (p := p) m n (by omega);exact ⟨r ++ [p + m], by rw [iN, e, List.append_assoc]⟩
theorem xG {lg : List (List L)} : ∀ (m n : Nat), n <= m -> ∃ r, fC lg m = fC lg n ++ r
 | 0, n, h => ⟨[], by rw [show n = 0 by omega]; rfl⟩
 | m + 1, n, h => by
   by_cases c : n = m + 1
   ·subst c; exact ⟨[], by simp⟩
   ·obtain ⟨r, e⟩ := xG (lg := lg) m n (by omega);exact ⟨r ++ iN (ab lg m 0) (ab lg m 1).toNat, by rw [fC, e, List.append_assoc]⟩
theorem dup {a b l : List Int} {x : Int} (h : l = a ++ x :: b) (hm : x ∈ a) : ¬ l.Nodup := by
 rw [h, List.nodup_append];rintro ⟨_, _, q⟩;exact q x hm x (by simp) rfl
theorem fc {a : List Int} {x : Int} (h : a.Nodup) (hx : x ∉ a) : (a ++ [x]).Nodup := by
 rw [List.nodup_append];exact ⟨h, by simp, fun y hy z hz e => by simp at hz; subst hz; subst e; exact hx hy⟩
theorem xz {sp lg : List (List L)} {i : Int} (h0 : 0 <= i) (h1 : i < sp.length) (h : spOk (ab sp i 0) (ab sp i 1) (ab sp i 2) = false) : layOk sp lg = false := by
 unfold layOk; rw [aZ h0 h1 h]; rfl
theorem xA {sp lg : List (List L)} {i : Int} (h0 : 0 <= i) (h1 : i < lg.length) (h : lgOk (ab lg i 0) (ab lg i 1) (ab lg i 2) = false) : layOk sp lg = false := by
 unfold layOk; rw [aZ (p := Gc lg) h0 h1 h, Bool.and_false]; rfl
theorem xB {sp lg : List (List L)} {i : Int} (h0 : 0 <= i) (h1 : i < sp.length) (h : ab sp i 0 ∈ fD sp i.toNat) : layOk sp lg = false := by
 obtain ⟨r, e⟩ := yj (sp := sp) sp.length (i + 1).toNat (by omega);rw [iu h0, List.append_assoc] at e;have : ¬ (rc sp lg).Nodup := dup (a := fD sp i.toNat) (b := r ++ fC lg lg.length) (x := ab sp i 0) (by unfold rc; rw [e, List.append_assoc]; rfl) h;unfold layOk; rw [decide_eq_false this, Bool.and_false]
theorem xC {sp lg : List (List L)} {i k : Int} (h0 : 0 <= i) (h1 : i < lg.length) (k0 : 0 <= k) (k1 : k < ab lg i 1) (h : ab lg i 0 + k ∈ fD sp sp.length ++ fC lg i.toNat ++ iN (ab lg i 0) k.toNat) : layOk sp lg = false := by
 obtain ⟨r, e⟩ := xG (lg := lg) lg.length (i + 1).toNat (by omega);obtain ⟨r2, e2⟩ := xY (p := ab lg i 0) (ab lg i 1).toNat (k + 1).toNat (by omega);rw [jG h0, e2, pT k0] at e;have : ¬ (rc sp lg).Nodup := dup (a := fD sp sp.length ++ fC lg i.toNat ++ iN (ab lg i 0) k.toNat) (b := r2 ++ r) (x := ab lg i 0 + k) (by unfold rc; rw [e]; simp only [List.append_assoc]; rfl) h;unfold layOk; rw [decide_eq_false this, Bool.and_false]
theorem xD {sp lg : List (List L)} {i j : Int} (h : upto (E0 sp) i) (hi : (sp.length : Int) <= i) (h2 : upto (Gc lg) j) (hj : (lg.length : Int) <= j) (hn : (rc sp lg).Nodup) : layOk sp lg = true := by
 unfold layOk; rw [aM h hi, aM h2 hj, decide_eq_true hn]; rfl
theorem As {sp lg : List (List L)} (h : layOk sp lg = true) : (∀ i : Int, 0 <= i -> i < sp.length -> spOk (ab sp i 0) (ab sp i 1) (ab sp i 2) = true) /\ (∀ i : Int, 0 <= i -> i < lg.length -> lgOk (ab lg i 0) (ab lg i 1) (ab lg i 2) = true) /\ (rc sp lg).Nodup := by
 unfold layOk at h;simp only [Bool.and_eq_true, decide_eq_true_eq] at h;exact ⟨cB.1 h.1.1, cB.1 h.1.2, h.2⟩
def Ha (es : List (List L)) : Prop := ∀ e ∈ es, ∃ (k : Int) (b : Bool), e = [.v (.int .i64 k), .v (.bool b)]
theorem pK {k : Int} {b : Bool} {es : List (List L)} {n : Int} : cz ([.v (.int .i64 k), .v (.bool b)] :: es) n = if k = n then some (0, .bool b) else (cz es n).map fun p => (p.1 + 1, p.2) := rfl
theorem hZ {k : Int} {b : Bool} {es : List (List L)} {n : Int} : mgbI ([.v (.int .i64 k), .v (.bool b)] :: es) n = if k = n then b else mgbI es n := by
 unfold mgbI;rw [pK];by_cases c : k = n
 ·rw [if_pos c, if_pos c]
 ·rw [if_neg c, if_neg c];cases cz es n with
  | none => rfl
  | some p => obtain ⟨j, v⟩ := p; cases v <;> rfl
theorem xL {k : Int} {b x : Bool} {es : List (List L)} {n : Int} : fS ([.v (.int .i64 k), .v (.bool b)] :: es) n (.v (.bool x)) = if k = n then [.v (.int .i64 n), .v (.bool x)] :: es else [.v (.int .i64 k), .v (.bool b)] :: fS es n (.v (.bool x)) := by
 unfold fS;rw [pK];by_cases c : k = n
 ·rw [if_pos c, if_pos c]; rfl
 ·rw [if_neg c, if_neg c];cases cz es n with
  | none => rfl
  | some p => rfl
theorem Lh {x : Bool} {n : Int} : ∀ {es : List (List L)}, Ha es -> Ha (fS es n (.v (.bool x))) /\ ∀ m, mgbI (fS es n (.v (.bool x))) m = if m = n then x else mgbI es m
 | [], _ => by
   refine ⟨fun e he => ?_, fun m => ?_⟩
   ·have : e = [.v (.int .i64 n), .v (.bool x)] := by simpa [fS, cz] using he
    exact ⟨n, x, this⟩
   ·show mgbI [[.v (.int .i64 n), .v (.bool x)]] m = _;rw [hZ];by_cases c : m = n
    ·rw [if_pos c.symm, if_pos c]
    ·rw [if_neg (fun e => c e.symm), if_neg c]
 | e :: es, h => by
   obtain ⟨k, b, rfl⟩ := h e (by simp);have h' : Ha es := fun e he => h e (by simp [he])
   obtain ⟨a1, a2⟩ := Lh (x := x) (n := n) h';rw [xL];by_cases c : k = n
   ·rw [if_pos c];refine ⟨fun e he => ?_, fun m => ?_⟩
    ·rcases List.mem_cons.1 he with rfl | he
     ·exact ⟨n, x, rfl⟩
     ·exact h' e he
    ·rw [hZ, hZ];by_cases d : m = n
     ·rw [if_pos d.symm, if_pos d]
     ·rw [if_neg (fun e => d e.symm), if_neg d, if_neg (fun e => d (by rw [<- e, c]))]
   ·rw [if_neg c];refine ⟨fun e he => ?_, fun m => ?_⟩
    ·rcases List.mem_cons.1 he with rfl | he
     ·exact ⟨k, b, rfl⟩
     ·exact a1 e he
    ·rw [hZ, hZ, a2 m];by_cases d : k = m
     ·rw [if_pos d, if_pos d, if_neg (fun e => c (d.trans e))]
     ·rw [if_neg d, if_neg d]
def muT (es : List (List L)) (n : Int) : List (List L) := fS es n (.v (.bool true))
structure jc (es : List (List L)) (l : List Int) : Prop where
 wf : Ha es
 at_ : ∀ m, mgbI es m = true ↔ m ∈ l
theorem wz : jc [] [] := ⟨(fun e he => by cases he), fun m => by simp [mgbI, cz]⟩
theorem oa {es : List (List L)} {l : List Int} {n : Int} (h : jc es l) : jc (fS es n (.v (.bool true))) (l ++ [n]) := by
 have q := Lh (x := true) (n := n) h.wf;refine ⟨q.1, fun m => ?_⟩;rw [q.2 m];by_cases c : m = n
 ·rw [if_pos c]; simp [c]
 ·rw [if_neg c, h.at_ m]; simp [c]
def one (x : Int) : List (List L) := [[.v (.int .i64 x)]]
structure Cg (sp : List (List L)) (i : Int) (o : List (List L)) : Prop where
 e : o = dX (fD sp i.toNat)
 nd : (fD sp i.toNat).Nodup
 ok : upto (E0 sp) i
 b : ∀ x ∈ fD sp i.toNat, 0 <= x /\ x <= 64
structure G3 (sp lg : List (List L)) (j : Int) (o : List (List L)) : Prop where
 e : o = dX (fD sp sp.length ++ fC lg j.toNat)
 nd : (fD sp sp.length ++ fC lg j.toNat).Nodup
 oks : upto (E0 sp) sp.length
 ok : upto (Gc lg) j
 b : ∀ x ∈ fD sp sp.length ++ fC lg j.toNat, 0 <= x /\ x <= 64
 l : (fC lg j.toNat).length <= 64 * j.toNat
structure Cf (sp lg : List (List L)) (j k : Int) (o : List (List L)) : Prop where
 e : o = dX (fD sp sp.length ++ fC lg j.toNat ++ iN (ab lg j 0) k.toNat)
 nd : (fD sp sp.length ++ fC lg j.toNat ++ iN (ab lg j 0) k.toNat).Nodup
 oks : upto (E0 sp) sp.length
 ok : upto (Gc lg) j
 b : ∀ x ∈ fD sp sp.length ++ fC lg j.toNat ++ iN (ab lg j 0) k.toNat, 0 <= x /\ x <= 64
 l : (fC lg j.toNat).length <= 64 * j.toNat
theorem zk {l : List Int} (h : ∀ x ∈ l, 0 <= x /\ x <= 64) (hl : l.length <= 70368744177664) : Rw [tI] (dX l) := lD (fun x hx => by have := h x hx; omega) hl
theorem uj {l : List Int} {x : Int} (h : ∀ x ∈ l, 0 <= x /\ x <= 64) (hx : 0 <= x /\ x <= 64) : ∀ y ∈ l ++ [x], 0 <= y /\ y <= 64 := by
 intro y hy;rcases List.mem_append.1 hy with q | q
 ·exact h y q
 ·simp at q; rw [q]; exact hx
theorem Kw {sp : List (List L)} : Cg sp 0 [] := ⟨rfl, List.nodup_nil, aG, fun x hx => by cases hx⟩
theorem AG {sp o : List (List L)} {i : Int} (h : Cg sp i o) : o.length = i.toNat := by rw [h.e, bC, iQ]
theorem Im {sp o : List (List L)} {i : Int} (h : Cg sp i o) (hi : i <= 1073741824) : Rw [tI] o := by
 have l := AG h;have e := h.e;rw [e, bC] at l;rw [e]; exact zk h.b (by omega)
theorem Gj {sp lg o : List (List L)} {i : Int} (h : Cg sp i o) (h0 : 0 <= i) (h1 : i < sp.length) (hh : hasB o (ab sp i 0) = true) : layOk sp lg = false := by
 rw [h.e, iG] at hh;exact xB h0 h1 hh
theorem Io {sp o : List (List L)} {i : Int} (h : Cg sp i o) (h0 : 0 <= i) (hs : spOk (ab sp i 0) (ab sp i 1) (ab sp i 2) = true) (hh : hasB o (ab sp i 0) = false) : Cg sp (i + 1) (o ++ [[.v (.int .i64 (ab sp i 0))]]) := by
 have t := fP hs;have e := h.e;rw [e] at hh;have hm := nR hh;exact ⟨by rw [iu h0, dq, e]; rfl, by rw [iu h0]; exact fc h.nd hm, aw h.ok hs, by rw [iu h0]; exact uj h.b (by omega)⟩
theorem Gl {sp lg o : List (List L)} {i : Int} (h : Cg sp i o) (h1 : i <= sp.length) (h2 : (sp.length : Int) <= i) : G3 sp lg 0 o := by
 have e : i.toNat = sp.length := by omega
 have ei : i = sp.length := by omega
 have q1 := h.e; have q2 := h.nd; have q3 := h.ok; have q4 := h.b;rw [e] at q1 q2 q4;rw [ei] at q3;exact ⟨by rw [q1]; simp [fC], by simpa [fC] using q2, q3, aG, by simpa [fC] using q4, by simp [fC]⟩
theorem Kv {sp lg o : List (List L)} {j : Int} (h : G3 sp lg j o) : Cf sp lg j 0 o := by
 refine ⟨by rw [h.e]; simp [iN], by simpa [iN] using h.nd, h.oks, h.ok, by simpa [iN] using h.b, h.l⟩
theorem AF {sp lg o : List (List L)} {j k : Int} (h : Cf sp lg j k o) : o.length <= sp.length + 64 * j.toNat + k.toNat := by
 have l := h.l;rw [h.e, bC, List.length_append, List.length_append, iQ, kx]; omega
theorem Ik {sp lg o : List (List L)} {j k : Int} (h : Cf sp lg j k o) (h1 : sp.length <= 1073741824) (h2 : j <= 1073741824) (h3 : k <= 64) : Rw [tI] o := by
 have l := AF h;have e := h.e;rw [e, bC] at l;rw [e]; exact zk h.b (by omega)
theorem Ge {sp lg o : List (List L)} {j k : Int} (h : Cf sp lg j k o) (h0 : 0 <= j) (h1 : j < lg.length) (k0 : 0 <= k) (k1 : k < ab lg j 1) (hh : hasB o (ab lg j 0 + k) = true) : layOk sp lg = false := by
 rw [h.e, iG] at hh;exact xC h0 h1 k0 k1 hh
theorem Ij {p n s k : Int} (h : lgOk p n s = true) (k0 : 0 <= k) (k1 : k < n) : 0 <= p /\ p + k <= 32 /\ bu .add .i64 p k = p + k /\ 1 <= n /\ n <= 32 := by
 have t := eV h;have b := eW t.1;have e : bu .add .i64 p k = p + k := bG (by omega);exact ⟨by omega, by omega, e, by omega, by omega⟩
theorem Il {sp lg o : List (List L)} {j k : Int} (h : Cf sp lg j k o) (k0 : 0 <= k) (hx : 0 <= ab lg j 0 + k /\ ab lg j 0 + k <= 64) (hh : hasB o (ab lg j 0 + k) = false) : Cf sp lg j (k + 1) (o ++ [[.v (.int .i64 (ab lg j 0 + k))]]) := by
 have e := h.e;rw [e] at hh;have hm := nR hh;have q : ∀ A : List Int, A ++ iN (ab lg j 0) (k + 1).toNat = A ++ iN (ab lg j 0) k.toNat ++ [ab lg j 0 + k] := fun A => by rw [pT k0, List.append_assoc]
 exact ⟨by rw [q, dq, e]; rfl, by rw [q]; exact fc h.nd hm, h.oks, h.ok, by rw [q]; exact uj h.b hx, h.l⟩
theorem Gf {sp lg o : List (List L)} {j k : Int} (h : Cf sp lg j k o) (j0 : 0 <= j) (hl : lgOk (ab lg j 0) (ab lg j 1) (ab lg j 2) = true) (k0 : 0 <= k) (k1 : k <= ab lg j 1) (k2 : ab lg j 1 <= k) : G3 sp lg (j + 1) o := by
 have t := eV hl;have b := eW t.1;have ek : k.toNat = (ab lg j 1).toNat := by omega
 have q1 := h.e; have q2 := h.nd; have q4 := h.b; have q5 := h.l;rw [ek, List.append_assoc, <- jG j0] at q1 q2 q4;refine ⟨q1, q2, h.oks, aw h.ok hl, q4, ?_⟩;rw [jG j0, List.length_append, kx]; omega
theorem Gg {sp lg o : List (List L)} {j : Int} (h : G3 sp lg j o) (j1 : j <= lg.length) (j2 : (lg.length : Int) <= j) : layOk sp lg = true := by
 have e : j.toNat = lg.length := by omega
 have q := h.nd;rw [e] at q;exact xD h.oks (Int.le_refl _) h.ok j2 q
end Go.V
namespace Go.V
structure E9 (sp : List (List L)) (i : Int) (es : List (List L)) : Prop where
 s : jc es (fD sp i.toNat)
 nd : (fD sp i.toNat).Nodup
 ok : upto (E0 sp) i
structure G0 (sp lg : List (List L)) (j : Int) (es : List (List L)) : Prop where
 s : jc es (fD sp sp.length ++ fC lg j.toNat)
 nd : (fD sp sp.length ++ fC lg j.toNat).Nodup
 oks : upto (E0 sp) sp.length
 ok : upto (Gc lg) j
structure E7 (sp lg : List (List L)) (j k : Int) (es : List (List L)) : Prop where
 s : jc es (fD sp sp.length ++ fC lg j.toNat ++ iN (ab lg j 0) k.toNat)
 nd : (fD sp sp.length ++ fC lg j.toNat ++ iN (ab lg j 0) k.toNat).Nodup
 oks : upto (E0 sp) sp.length
 ok : upto (Gc lg) j
theorem BB {es : List (List L)} {l : List Int} {n : Int} (h : jc es l) (e : mgbI es n = false) : n ∉ l := fun m => by rw [(h.at_ n).2 m] at e; cases e
theorem Kp {sp : List (List L)} : E9 sp 0 [] := ⟨wz, List.nodup_nil, aG⟩
theorem F3 {sp lg es : List (List L)} {i : Int} (h : E9 sp i es) (h0 : 0 <= i) (h1 : i < sp.length) (hh : mgbI es (ab sp i 0) = true) : layOk sp lg = false :=
 xB h0 h1 ((h.s.at_ _).1 hh)
theorem Ib {sp es : List (List L)} {i : Int} (h : E9 sp i es) (h0 : 0 <= i) (hs : spOk (ab sp i 0) (ab sp i 1) (ab sp i 2) = true) (hh : mgbI es (ab sp i 0) = false) : E9 sp (i + 1) (muT es (ab sp i 0)) :=
 ⟨by rw [iu h0]; exact oa h.s, by rw [iu h0]; exact fc h.nd (BB h.s hh), aw h.ok hs⟩
theorem F7 {sp lg es : List (List L)} {i : Int} (h : E9 sp i es) (h1 : i <= sp.length) (h2 : (sp.length : Int) <= i) : G0 sp lg 0 es := by
 have e : i.toNat = sp.length := by omega
 have ei : i = sp.length := by omega
 have q1 := h.s; have q2 := h.nd; have q3 := h.ok;rw [e] at q1 q2;rw [ei] at q3;exact ⟨by simpa [fC] using q1, by simpa [fC] using q2, q3, aG⟩
theorem Ko {sp lg es : List (List L)} {j : Int} (h : G0 sp lg j es) : E7 sp lg j 0 es :=
 ⟨by simpa [iN] using h.s, by simpa [iN] using h.nd, h.oks, h.ok⟩
theorem FW {sp lg es : List (List L)} {j k : Int} (h : E7 sp lg j k es) (h0 : 0 <= j) (h1 : j < lg.length) (k0 : 0 <= k) (k1 : k < ab lg j 1) (hh : mgbI es (ab lg j 0 + k) = true) : layOk sp lg = false :=
 xC h0 h1 k0 k1 ((h.s.at_ _).1 hh)
theorem Ia {sp lg es : List (List L)} {j k : Int} (h : E7 sp lg j k es) (k0 : 0 <= k) (hh : mgbI es (ab lg j 0 + k) = false) : E7 sp lg j (k + 1) (muT es (ab lg j 0 + k)) := by
 have q : ∀ A : List Int, A ++ iN (ab lg j 0) (k + 1).toNat = A ++ iN (ab lg j 0) k.toNat ++ [ab lg j 0 + k] := fun A => by rw [pT k0, List.append_assoc]
 exact ⟨by rw [q]; exact oa h.s, by rw [q]; exact fc h.nd (BB h.s hh), h.oks, h.ok⟩
theorem FX {sp lg es : List (List L)} {j k : Int} (h : E7 sp lg j k es) (j0 : 0 <= j) (hl : lgOk (ab lg j 0) (ab lg j 1) (ab lg j 2) = true) (k1 : k <= ab lg j 1) (k2 : ab lg j 1 <= k) : G0 sp lg (j + 1) es := by
 have ek : k.toNat = (ab lg j 1).toNat := by omega
 have q1 := h.s; have q2 := h.nd;rw [ek, List.append_assoc, <- jG j0] at q1 q2;exact ⟨q1, q2, h.oks, aw h.ok hl⟩
theorem FY {sp lg es : List (List L)} {j : Int} (h : G0 sp lg j es) (j1 : j <= lg.length) (j2 : (lg.length : Int) <= j) : layOk sp lg = true := by
 have e : j.toNat = lg.length := by omega
 have q := h.nd;rw [e] at q;exact xD h.oks (Int.le_refl _) h.ok j2 q
theorem IH {b : Bool} (h : (!b) = false) : b = true := by cases b <;> simp_all
theorem II {b : Bool} (h : (!b) = true) : b = false := by cases b <;> simp_all
end Go.V
namespace Go.V
def rV (sp : List (List L)) (a i : Int) : Bool := decide (0 <= saS (ab sp i 0) (ab sp i 1) (ab sp i 2) a)
def sU (lg : List (List L)) (a i : Int) : Bool := lhB (ab lg i 0) (ab lg i 1) (ab lg i 2) a
def hK (sp : List (List L)) (a : Int) : Int := bW (rV sp a) sp.length
def l5 (lg : List (List L)) (a : Int) : Int := bW (sU lg a) lg.length
def De (sp : List (List L)) (a i : Int) : Int := saS (ab sp i 0) (ab sp i 1) (ab sp i 2) a
def Hh (sp : List (List L)) (a i : Int) : Int := saO (ab sp i 0) (ab sp i 1) (ab sp i 2) a
def JV (lg : List (List L)) (a i : Int) : Int := loI (ab lg i 0) (ab lg i 1) (ab lg i 2) a
def dnK (sp lg : List (List L)) (a : Int) : Int := if 0 <= hK sp a then (if hsB (ab sp (hK sp a) 2) (De sp a (hK sp a)) then 1 else 2) else if 0 <= l5 lg a then 3 else 0
def dnI (sp lg : List (List L)) (a : Int) : Int := if 0 <= hK sp a then hK sp a else if 0 <= l5 lg a then l5 lg a else 0
def dnS (sp : List (List L)) (a : Int) : Int := if 0 <= hK sp a then De sp a (hK sp a) else 0
def dnO (sp lg : List (List L)) (a : Int) : Int := if 0 <= hK sp a then Hh sp a (hK sp a) else if 0 <= l5 lg a then JV lg a (l5 lg a) else 0
def dzK (sp lg : List (List L)) (a : Int) : Int := if layOk sp lg then dnK sp lg a else 0
def dzI (sp lg : List (List L)) (a : Int) : Int := if layOk sp lg then dnI sp lg a else 0
def dzS (sp lg : List (List L)) (a : Int) : Int := if layOk sp lg then dnS sp a else 0
def dzO (sp lg : List (List L)) (a : Int) : Int := if layOk sp lg then dnO sp lg a else 0
theorem JB {sp : List (List L)} {a i : Int} (h : upto (bP (rV sp a)) i) (hs : saS (ab sp i 0) (ab sp i 1) (ab sp i 2) a < 0) : upto (bP (rV sp a)) (i + 1) :=
 aw h (by unfold bP rV; rw [decide_eq_false (by omega)]; rfl)
theorem Ic {lg : List (List L)} {a i : Int} (h : upto (bP (sU lg a)) i) (hs : lhB (ab lg i 0) (ab lg i 1) (ab lg i 2) a = false) : upto (bP (sU lg a)) (i + 1) :=
 aw h (by unfold bP sU; rw [hs]; rfl)
theorem Ea {sp : List (List L)} {a i : Int} (h : upto (bP (rV sp a)) i) (h0 : 0 <= i) (h1 : i < sp.length) (hs : 0 <= saS (ab sp i 0) (ab sp i 1) (ab sp i 2) a) : hK sp a = i :=
 cy h h0 h1 (decide_eq_true hs)
theorem Eb {sp : List (List L)} {a i : Int} (h : upto (bP (rV sp a)) i) (h1 : (sp.length : Int) <= i) : hK sp a = -1 := cO h h1
theorem HE {lg : List (List L)} {a i : Int} (h : upto (bP (sU lg a)) i) (h0 : 0 <= i) (h1 : i < lg.length) (hs : lhB (ab lg i 0) (ab lg i 1) (ab lg i 2) a = true) : l5 lg a = i :=
 cy h h0 h1 hs
theorem HF {lg : List (List L)} {a i : Int} (h : upto (bP (sU lg a)) i) (h1 : (lg.length : Int) <= i) : l5 lg a = -1 := cO h h1
def Gz (k i s o : Int) : List DV := [DV.agg [.v (.int .i64 k), .v (.int .i64 i), .v (.int .i64 s), .v (.int .i64 o)]]
def B8 (sp lg : List (List L)) (a : Int) : List DV := Gz (dnK sp lg a) (dnI sp lg a) (dnS sp a) (dnO sp lg a)
def JS (sp lg : List (List L)) (a : Int) : List DV := Gz (dzK sp lg a) (dzI sp lg a) (dzS sp lg a) (dzO sp lg a)
theorem Lk {sp lg : List (List L)} {a i : Int} (h : upto (bP (rV sp a)) i) (h0 : 0 <= i) (h1 : i < sp.length) (hs : 0 <= saS (ab sp i 0) (ab sp i 1) (ab sp i 2) a) (hh : hsB (ab sp i 2) (saS (ab sp i 0) (ab sp i 1) (ab sp i 2) a) = true) :
 Gz 1 i (saS (ab sp i 0) (ab sp i 1) (ab sp i 2) a) (saO (ab sp i 0) (ab sp i 1) (ab sp i 2) a) = B8 sp lg a := by
 have e := Ea h h0 h1 hs;unfold B8 dnK dnI dnS dnO De Hh;rw [e, if_pos h0, if_pos h0, if_pos h0, if_pos h0, hh]; rfl
theorem Ll {sp lg : List (List L)} {a i : Int} (h : upto (bP (rV sp a)) i) (h0 : 0 <= i) (h1 : i < sp.length) (hs : 0 <= saS (ab sp i 0) (ab sp i 1) (ab sp i 2) a) (hh : hsB (ab sp i 2) (saS (ab sp i 0) (ab sp i 1) (ab sp i 2) a) = false) :
 Gz 2 i (saS (ab sp i 0) (ab sp i 1) (ab sp i 2) a) (saO (ab sp i 0) (ab sp i 1) (ab sp i 2) a) = B8 sp lg a := by
 have e := Ea h h0 h1 hs;unfold B8 dnK dnI dnS dnO De Hh;rw [e, if_pos h0, if_pos h0, if_pos h0, if_pos h0, hh]; rfl
theorem Lm {sp lg : List (List L)} {a i j : Int} (h : upto (bP (rV sp a)) i) (h1 : (sp.length : Int) <= i) (g : upto (bP (sU lg a)) j) (j0 : 0 <= j) (j1 : j < lg.length) (hh : lhB (ab lg j 0) (ab lg j 1) (ab lg j 2) a = true) :
 Gz 3 j 0 (loI (ab lg j 0) (ab lg j 1) (ab lg j 2) a) = B8 sp lg a := by
 have e := Eb h h1;have f := HE g j0 j1 hh;have n : ¬ (0 : Int) <= -1 := by omega
 unfold B8 dnK dnI dnS dnO JV;rw [e, f, if_neg n, if_neg n, if_neg n, if_neg n, if_pos j0, if_pos j0, if_pos j0]
theorem Ln {sp lg : List (List L)} {a i j : Int} (h : upto (bP (rV sp a)) i) (h1 : (sp.length : Int) <= i) (g : upto (bP (sU lg a)) j) (j1 : (lg.length : Int) <= j) :
 Gz 0 0 0 0 = B8 sp lg a := by
 have e := Eb h h1;have f := HF g j1;have n : ¬ (0 : Int) <= -1 := by omega
 unfold B8 dnK dnI dnS dnO;rw [e, f, if_neg n, if_neg n, if_neg n, if_neg n, if_neg n, if_neg n, if_neg n]
theorem CC {sp lg : List (List L)} {a : Int} (h : layOk sp lg = true) : B8 sp lg a = JS sp lg a := by
 unfold JS B8 dzK dzI dzS dzO;rw [if_pos h, if_pos h, if_pos h, if_pos h]
theorem J8 {sp lg : List (List L)} {a : Int} (h : layOk sp lg = false) : Gz 0 0 0 0 = JS sp lg a := by
 have n : ¬ layOk sp lg = true := by rw [h]; decide
 unfold JS dzK dzI dzS dzO;rw [if_neg n, if_neg n, if_neg n, if_neg n]
end Go.V
namespace Go.V
def nD (sp lg : List (List L)) (a : Int) : Bool := decide (dzO sp lg a = 0) && (decide (dzK sp lg a = 1) || decide (dzK sp lg a = 3))
def Ca (sp lg : List (List L)) : Nat -> List (List L)
 | 0 => []
 | n + 1 => Ca sp lg n ++ (if nD sp lg n then [[.v (.int .i64 n)]] else [])
def laL (sp lg : List (List L)) : List (List L) := if layOk sp lg then Ca sp lg 512 else []
structure Ce (sp lg : List (List L)) (i : Int) (o : List (List L)) : Prop where
 e : o = Ca sp lg i.toNat
 l : o.length <= i.toNat
 y : 0 < i -> layOk sp lg = true
theorem Kq {sp lg : List (List L)} : Ce sp lg 0 [] := ⟨rfl, Nat.le_refl _, fun h => absurd h (by omega)⟩
theorem Ap {sp lg : List (List L)} {i : Int} (h : 0 <= i) : Ca sp lg (i + 1).toNat = Ca sp lg i.toNat ++ (if nD sp lg i then [[.v (.int .i64 i)]] else []) := by
 rw [show (i + 1).toNat = i.toNat + 1 from by omega, Ca, Int.toNat_of_nonneg h]
theorem Ar {sp lg o : List (List L)} {i : Int} (h : Ce sp lg i o) (h0 : 0 <= i) (hl : layOk sp lg = true) (hv : nD sp lg i = true) : Ce sp lg (i + 1) (o ++ [[.v (.int .i64 i)]]) := by
 have e := h.e; have l := h.l;refine ⟨by rw [Ap h0, if_pos hv, <- e], ?_, fun _ => hl⟩;rw [List.length_append, List.length_cons, List.length_nil]; omega
theorem En {sp lg o : List (List L)} {i : Int} (h : Ce sp lg i o) (h0 : 0 <= i) (hl : layOk sp lg = true) (hv : nD sp lg i = false) : Ce sp lg (i + 1) o := by
 have e := h.e; have l := h.l;refine ⟨by rw [Ap h0, hv, <- e]; simp, ?_, fun _ => hl⟩;omega
theorem F9 {sp lg o : List (List L)} {i : Int} (h : Ce sp lg i o) (h1 : i <= 512) (h2 : 512 <= i) : o = laL sp lg := by
 have e : i = 512 := by omega
 subst e;unfold laL; rw [if_pos (h.y (by omega))]; exact h.e
theorem F8 {sp lg o : List (List L)} {i : Int} (h : Ce sp lg i o) (h0 : 0 <= i) (hl : layOk sp lg = false) : o = laL sp lg := by
 have z : i = 0 := by
  by_cases c : 0 < i
  ·have := h.y c; rw [hl] at this; cases this
  ·omega
 subst z;unfold laL; rw [hl]; exact h.e
theorem Is {sp lg : List (List L)} {a : Int} (h : dzO sp lg a = 0) (k : dzK sp lg a = 1) : nD sp lg a = true := by unfold nD; rw [h, k]; rfl
theorem Iu {sp lg : List (List L)} {a : Int} (h : dzO sp lg a = 0) (k : dzK sp lg a = 3) : nD sp lg a = true := by unfold nD; rw [h, k]; rfl
theorem Ip {sp lg : List (List L)} {a : Int} (h : dzO sp lg a ≠ 0) : nD sp lg a = false := by unfold nD; rw [decide_eq_false h]; rfl
theorem Iq {sp lg : List (List L)} {a : Int} (h : dzK sp lg a ≠ 1) (k : dzK sp lg a ≠ 3) : nD sp lg a = false := by unfold nD; rw [decide_eq_false h, decide_eq_false k, Bool.or_false, Bool.and_false]
theorem iq {a b : List (List L)} (h : a = b) : [DV.one (.s 1 a)] = [DV.one (.s 1 b)] := by rw [h]
end Go.V