/-
  Addresses that are held, and those in use that nobody holds.
-/import Derived.Test.YticfhgfgobafbaaGreatH44
import Derived.Test.YticfhgfgobafbaaGreatH39
set_option linter.all false
namespace Go.V
theorem confR_int : ∀ {fs : List Ty} {e : (List L)} {j : Nat}, confR fs e -> fs[j]? = some tI -> ∃ n, e[j]? = some (.v (.int .i64 n)) /\ -9223372036854775808 <= n /\ n <= 9223372036854775807
 | [], _, j, _, h => by simp at h
 | _ :: _, [], j, h, _ => h.elim
 | t :: ts, l :: ls, 0, h, e => by
   simp at e; subst e
   have h1 := h.1
   cases l with
   | v x => cases x with
     | int k n => simp only [confL] at h1; exact ⟨n, by simp [h1.1], ihas h1.2⟩
     | _ => simp [confL] at h1
   | _ => simp [confL] at h1
 | t :: ts, l :: ls, j + 1, h, e => by
   simp at e
   obtain ⟨n, h1, h2⟩ := confR_int h.2 e
   exact ⟨n, by simpa using h1, h2⟩
theorem gi_rg {fs : List Ty} {es : List (List L)} {i : Int} {j : Nat} (h : Rw fs es) (hj : fs[j]? = some tI) (h1 : i.toNat < es.length) : -9223372036854775808 <= giI es i j /\ giI es i j <= 9223372036854775807 := by
 obtain ⟨n, e, b⟩ := confR_int (h.at h1) hj
 unfold giI
 rw [List.getD_eq_getElem?_getD (l := es.getD i.toNat []), e]
 exact b
theorem rw_1 {x : Int} (h : -9223372036854775808 <= x /\ x <= 9223372036854775807) : Rw [tI] [[.v (.int .i64 x)]] := Rw.one (fs := [tI]) ⟨⟨rfl, h⟩, trivial⟩
def obR (os : List (List L)) (f : Nat) : Nat -> List (List L)
 | 0 => []
 | n + 1 => obR os f n ++ [[.v (.int .i64 (giI os n f))]]
def clR (ls : List (List L)) : Nat -> List (List L)
 | 0 => []
 | n + 1 => clR ls n ++ gsI ls n 0
def ccR (cs : List (List L)) : Nat -> List (List L)
 | 0 => []
 | n + 1 => ccR cs n ++ clR (gsI cs n 0) (gsI cs n 0).length
def hdL (os cs qs b x : List (List L)) : List (List L) := (obR os 1 os.length ++ ccR cs cs.length ++ obR qs 0 qs.length) ++ ifL b x
theorem obR_len {os : List (List L)} {f : Nat} : ∀ n, (obR os f n).length = n
 | 0 => rfl
 | n + 1 => by rw [obR, List.length_append, obR_len n]; rfl
theorem obR_rw {fs : List Ty} {os : List (List L)} {f : Nat} (h : Rw fs os) (hf : fs[f]? = some tI) (hl : os.length <= 1099511627776) : ∀ n, n <= os.length -> Rw [tI] (obR os f n)
 | 0, _ => Rw.nil
 | n + 1, hn => Rw.append (obR_rw h hf hl n (by omega)) (rw_1 (gi_rg h hf (by omega))) (by rw [obR_len]; unfold maxLen; simp only [List.length_cons, List.length_nil]; omega)
theorem gs_cnt {es : List (List L)} {n : Nat} {j : Nat} (h : n < es.length) : cntE (gsI es n j) <= cntR (es.getD n []) := by
 unfold gsI
 rw [Int.toNat_natCast]
 generalize es.getD n [] = r
 cases e : r[j]? with
 | none => rw [List.getD_eq_getElem?_getD, e]; exact Nat.zero_le _
 | some l =>
   rw [List.getD_eq_getElem?_getD, e]
   have q := cntR_at e
   cases l with
   | s sz es => exact q
   | _ => exact Nat.zero_le _
theorem cntEs_take {es : List (List L)} {n : Nat} (h : n < es.length) : cntEs (es.take (n + 1)) = cntEs (es.take n) + cntR (es.getD n []) := by
 rw [getD_take_succ (d := []) h, cntEs_append]; simp [cntEs]
theorem cntEs_le {es : List (List L)} {n : Nat} : cntEs (es.take n) <= cntEs es := by
 conv => rhs; rw [<- List.take_append_drop n es, cntEs_append]
 omega
theorem clR_len {ls : List (List L)} : ∀ n, n <= ls.length -> (clR ls n).length <= cntEs (ls.take n)
 | 0, _ => Nat.zero_le _
 | n + 1, h => by
   have q := clR_len n (by omega : n <= ls.length)
   have c := gs_cnt (es := ls) (n := n) (j := 0) (by omega)
   unfold cntE at c
   rw [clR, List.length_append, cntEs_take (by omega)]; omega
theorem clR_rw {ls : List (List L)} (h : Rw [.sl [tI]] ls) (hc : cntEs ls <= 1099511627776) : ∀ n, n <= ls.length -> Rw [tI] (clR ls n)
 | 0, _ => Rw.nil
 | n + 1, hn => Rw.append (clR_rw h hc n (by omega)) (Rw.sub (fs := [.sl [tI]]) h (by omega) rfl) (by
    have q := clR_len (n + 1) hn; rw [clR, List.length_append] at q
    have c := cntEs_le (es := ls) (n := n + 1)
    unfold maxLen; omega)
theorem ccR_len {cs : List (List L)} : ∀ n, n <= cs.length -> (ccR cs n).length <= cntEs (cs.take n)
 | 0, _ => Nat.zero_le _
 | n + 1, h => by
   have q := ccR_len n (by omega : n <= cs.length)
   have c := gs_cnt (es := cs) (n := n) (j := 0) (by omega)
   have d := clR_len (ls := gsI cs n 0) (gsI cs n 0).length (Nat.le_refl _)
   rw [List.take_length] at d
   unfold cntE at c
   rw [ccR, List.length_append, cntEs_take (by omega)]; omega
theorem ccR_rw {cs : List (List L)} (h : Rw [.sl [.sl [tI]]] cs) (hc : cntEs cs <= 1099511627776) : ∀ n, n <= cs.length -> Rw [tI] (ccR cs n)
 | 0, _ => Rw.nil
 | n + 1, hn => Rw.append (ccR_rw h hc n (by omega)) (clR_rw (Rw.sub (fs := [.sl [.sl [tI]]]) h (by omega) rfl) (by
    have c := gs_cnt (es := cs) (n := n) (j := 0) (by omega)
    have d := cntEs_take (es := cs) (n := n) (by omega)
    have e := cntEs_le (es := cs) (n := n + 1)
    unfold cntE at c; omega) _ (Nat.le_refl _)) (by
    have q := ccR_len (n + 1) hn; rw [ccR, List.length_append] at q
    have c := cntEs_le (es := cs) (n := n + 1)
    unfold maxLen; omega)
theorem fpK_len {b : List (List L)} {i : Int} : ∀ n, (fpK b i n).length = n
 | 0 => rfl
 | n + 1 => by rw [fpK, List.length_append, fpK_len n]; rfl
theorem mt_len {b x : List (List L)} : ∀ n : Nat, (((fbN b n).length + (fxN x n).length : Nat) : Int) = mtN b x n
 | 0 => rfl
 | n + 1 => by
   have q := mt_len (b := b) (x := x) n
   rw [mtN, fbN, fxN, List.length_append, List.length_append, fpK_len, <- q]; omega
theorem if_len {b x : List (List L)} : (ifL b x).length <= 30 := by
 unfold ifL
 by_cases c : mailOk b x = true
 ·rw [if_pos c, List.length_append]
  have t := ml_t c
  unfold mailOk at c
  simp only [Bool.and_eq_true, decide_eq_true_eq] at c
  have q := mt_len (b := b) (x := x) b.length
  rw [t.2]; omega
 ·rw [if_neg c]; exact Nat.zero_le _
theorem fpK_rw {b x : List (List L)} {i : Int} (h : NsM b x) (i0 : 0 <= i) (i1 : i < b.length) : ∀ n, n <= (gsI b i 0).length -> Rw [tI] (fpK b i n)
 | 0, _ => Rw.nil
 | n + 1, hn => Rw.append (fpK_rw h i0 i1 n (by omega)) (rw_1 (gi_rg (fs := [tI, tI]) (Rw.sub (fs := [.sl [tI, tI]]) h.bw (by omega) rfl) rfl (by omega))) (by
    have := h.bn i; rw [fpK_len]; unfold maxLen; simp only [List.length_cons, List.length_nil]; omega)
theorem fbN_rw {b x : List (List L)} (h : NsM b x) (hb : b.length <= 4) : ∀ n, n <= b.length -> Rw [tI] (fbN b n) /\ (fbN b n).length <= n * 1099511627776
 | 0, _ => ⟨Rw.nil, Nat.zero_le _⟩
 | n + 1, hn => by
   obtain ⟨q1, q2⟩ := fbN_rw h hb n (by omega)
   have l := h.bn n
   refine ⟨Rw.append q1 (fpK_rw h (by omega) (by omega) _ (Nat.le_refl _)) (by rw [fpK_len]; unfold maxLen; omega), ?_⟩
   rw [fbN, List.length_append, fpK_len]; omega
theorem fxN_rw {b x : List (List L)} (h : NsM b x) (hb : x.length <= 4) : ∀ n, n <= x.length -> Rw [tI] (fxN x n) /\ (fxN x n).length <= n * 1099511627776
 | 0, _ => ⟨Rw.nil, Nat.zero_le _⟩
 | n + 1, hn => by
   obtain ⟨q1, q2⟩ := fxN_rw h hb n (by omega)
   have l := h.xn n
   refine ⟨Rw.append q1 (Rw.sub (fs := [.sl [tI]]) h.xw (by omega) rfl) (by unfold maxLen; omega), ?_⟩
   rw [fxN, List.length_append]; omega
theorem if_rw {b x : List (List L)} (h : NsM b x) : Rw [tI] (ifL b x) := by
 unfold ifL
 by_cases c : mailOk b x = true
 ·rw [if_pos c]
  have t := ml_t c
  obtain ⟨q1, l1⟩ := fbN_rw h t.1 b.length (Nat.le_refl _)
  obtain ⟨q2, l2⟩ := fxN_rw h (by omega) x.length (Nat.le_refl _)
  exact Rw.append q1 q2 (by unfold maxLen; omega)
 ·rw [if_neg c]; exact Rw.nil
structure NsH (sp lg os cs b x qs : List (List L)) : Prop where
 sw : Rw [tI, tI, tI] sp
 lw : Rw [tI, tI, tI] lg
 ow : Rw [tI, tI, tI, tI] os
 cw : Rw [.sl [.sl [tI]]] cs
 qw : Rw [tI, tI, tI] qs
 m : NsM b x
 c : NsC cs
 sl : sp.length <= 1073741824
 ll : lg.length <= 1073741824
 ol : os.length <= 1073741824
 ql : qs.length <= 1073741824
 cl : cntE cs <= 1073741824
structure O1P (os : List (List L)) (i : Int) (o : List (List L)) : Prop where
 e : o = obR os 1 i.toNat
structure O2P (os cs : List (List L)) (i : Int) (o : List (List L)) : Prop where
 e : o = obR os 1 os.length ++ ccR cs i.toNat
structure O3P (os cs : List (List L)) (i k : Int) (o : List (List L)) : Prop where
 e : o = obR os 1 os.length ++ ccR cs i.toNat ++ clR (gsI cs i 0) k.toNat
structure O4P (os cs qs : List (List L)) (j : Int) (o : List (List L)) : Prop where
 e : o = obR os 1 os.length ++ ccR cs cs.length ++ obR qs 0 j.toNat
section
variable {sp lg os cs b x qs o : List (List L)} {i k j : Int}
theorem o1_0 : O1P os 0 [] := ⟨rfl⟩
theorem o1_up (h : O1P os i o) (i0 : 0 <= i) : O1P os (i + 1) (o ++ [[.v (.int .i64 (giI os i 1))]]) :=
 ⟨by rw [show (i + 1).toNat = i.toNat + 1 from by omega, obR, Int.toNat_of_nonneg i0, <- h.e]⟩
theorem o1_l (h : O1P os i o) : o.length = i.toNat := by rw [h.e, obR_len]
theorem o2_0 (h : O1P os i o) (i1 : i <= os.length) (i2 : (os.length : Int) <= i) : O2P os cs 0 o := ⟨by rw [h.e, show i.toNat = os.length from by omega]; simp [ccR]⟩
theorem o2_l (N : NsH sp lg os cs b x qs) (h : O2P os cs i o) (i1 : i <= cs.length) : o.length <= 2147483648 := by
 rw [h.e, List.length_append, obR_len]
 have q := ccR_len (cs := cs) i.toNat (by omega)
 have c := cntEs_le (es := cs) (n := i.toNat)
 have n := N.cl; have m := N.ol
 unfold cntE at n; omega
theorem o3_0 (h : O2P os cs i o) : O3P os cs i 0 o := ⟨by rw [h.e]; simp [clR]⟩
theorem o3_l (N : NsH sp lg os cs b x qs) (h : O3P os cs i k o) (i0 : 0 <= i) (i1 : i < cs.length) (k1 : k <= (gsI cs i 0).length) : o.length + cntEs ((gsI cs i 0).drop k.toNat) <= 2147483648 := by
 rw [h.e, List.length_append, List.length_append, obR_len]
 have q := ccR_len (cs := cs) i.toNat (by omega)
 have c := cntEs_le (es := cs) (n := i.toNat + 1)
 have d := cntEs_take (es := cs) (n := i.toNat) (by omega)
 have e := gs_cnt (es := cs) (n := i.toNat) (j := 0) (by omega)
 rw [Int.toNat_of_nonneg i0] at e
 have f := clR_len (ls := gsI cs i 0) k.toNat (by omega)
 have g : cntEs (gsI cs i 0) = cntEs ((gsI cs i 0).take k.toNat) + cntEs ((gsI cs i 0).drop k.toNat) := by rw [<- cntEs_append, List.take_append_drop]
 have n := N.cl; have m := N.ol
 unfold cntE at n e; omega
theorem o3_g (N : NsH sp lg os cs b x qs) (h : O3P os cs i k o) (i0 : 0 <= i) (i1 : i < cs.length) (k0 : 0 <= k) (k1 : k < (gsI cs i 0).length) : o.length + (gsI (gsI cs i 0) k 0).length <= 2147483648 := by
 have q := o3_l N h i0 i1 (by omega)
 have e := gs_cnt (es := gsI cs i 0) (n := k.toNat) (j := 0) (by omega)
 rw [Int.toNat_of_nonneg k0] at e
 have d : cntR ((gsI cs i 0).getD k.toNat []) <= cntEs ((gsI cs i 0).drop k.toNat) := by
  rw [List.drop_eq_getElem_cons (by omega)]
  rw [List.getD_eq_getElem?_getD, List.getElem?_eq_getElem (by omega)]
  simp [cntEs]
 unfold cntE at e; omega
theorem o3_up (h : O3P os cs i k o) (k0 : 0 <= k) : O3P os cs i (k + 1) (o ++ gsI (gsI cs i 0) k 0) :=
 ⟨by rw [show (k + 1).toNat = k.toNat + 1 from by omega, clR, Int.toNat_of_nonneg k0, <- List.append_assoc, <- h.e]⟩
theorem o2_up (h : O3P os cs i k o) (i0 : 0 <= i) (k1 : k <= ((gsI cs i 0).length : Int)) (k2 : ((gsI cs i 0).length : Int) <= k) : O2P os cs (i + 1) o :=
 ⟨by rw [show (i + 1).toNat = i.toNat + 1 from by omega, ccR, Int.toNat_of_nonneg i0, <- List.append_assoc, h.e, show k.toNat = (gsI cs i 0).length from by omega]⟩
theorem o4_0 (h : O2P os cs i o) (i1 : i <= cs.length) (i2 : (cs.length : Int) <= i) : O4P os cs qs 0 o := ⟨by rw [h.e, show i.toNat = cs.length from by omega]; simp [obR]⟩
theorem o4_l (N : NsH sp lg os cs b x qs) (h : O4P os cs qs j o) (j1 : j <= qs.length) : o.length <= 4294967296 := by
 rw [h.e, List.length_append, List.length_append, obR_len, obR_len]
 have q := ccR_len (cs := cs) cs.length (Nat.le_refl _)
 rw [List.take_length] at q
 have n := N.cl; have m := N.ol; have r := N.ql
 unfold cntE at n; omega
theorem o4_up (h : O4P os cs qs j o) (j0 : 0 <= j) : O4P os cs qs (j + 1) (o ++ [[.v (.int .i64 (giI qs j 0))]]) :=
 ⟨by rw [show (j + 1).toNat = j.toNat + 1 from by omega, obR, Int.toNat_of_nonneg j0, <- List.append_assoc, <- h.e]⟩
theorem o4_end (h : O4P os cs qs j o) (j1 : j <= qs.length) (j2 : (qs.length : Int) <= j) : o ++ ifL b x = hdL os cs qs b x := by
 unfold hdL; rw [h.e, show j.toNat = qs.length from by omega]
theorem hd_len (N : NsH sp lg os cs b x qs) : (hdL os cs qs b x).length <= 8589934592 := by
 have q := o4_l N (j := qs.length) (o := obR os 1 os.length ++ ccR cs cs.length ++ obR qs 0 qs.length) ⟨by simp⟩ (by omega)
 have f := if_len (b := b) (x := x)
 unfold hdL; rw [List.length_append]; omega
theorem hd_rw (N : NsH sp lg os cs b x qs) : Rw [tI] (hdL os cs qs b x) := by
 have l := hd_len N
 unfold hdL at l ⊢
 rw [List.length_append, List.length_append, List.length_append] at l
 have cl := N.cl; have ol := N.ol; have ql := N.ql
 unfold cntE at cl
 refine Rw.append (Rw.append (Rw.append (obR_rw N.ow rfl (by omega) _ (Nat.le_refl _)) (ccR_rw N.cw (by omega) _ (Nat.le_refl _)) (by unfold maxLen; omega)) (obR_rw N.qw rfl (by omega) _ (Nat.le_refl _)) (by rw [List.length_append]; unfold maxLen; omega)) (if_rw N.m) (by rw [List.length_append, List.length_append]; unfold maxLen; omega)
end
def hd1 (e : (List L)) : Int := lfI (e.getD 0 .g)
theorem has_m {l : List (List L)} {a : Int} : hasB l a = true ↔ a ∈ l.map hd1 := by
 rw [has_t, List.mem_map]
 constructor
 ·rintro ⟨k, hk, e⟩
  refine ⟨l[k], List.getElem_mem _, ?_⟩
  rw [<- e]; unfold giI hd1
  rw [Int.toNat_natCast, List.getD_eq_getElem?_getD (l := l), List.getElem?_eq_getElem hk]; rfl
 ·rintro ⟨e, he, q⟩
  obtain ⟨k, hk, rfl⟩ := List.mem_iff_getElem.1 he
  refine ⟨k, hk, ?_⟩
  rw [<- q]; unfold giI hd1
  rw [Int.toNat_natCast, List.getD_eq_getElem?_getD (l := l), List.getElem?_eq_getElem hk]; rfl
theorem has_app {l m : List (List L)} {a : Int} : hasB (l ++ m) a = (hasB l a || hasB m a) := by
 refine b_iff ?_
 rw [Bool.or_eq_true, has_m, has_m, has_m, List.map_append, List.mem_append]
theorem has_one {x a : Int} : hasB [[.v (.int .i64 x)]] a = true ↔ x = a := by
 rw [has_m]
 show a ∈ [x] ↔ x = a
 rw [List.mem_singleton]; exact ⟨Eq.symm, Eq.symm⟩
theorem has_obR {os : List (List L)} {f : Nat} {a : Int} : ∀ n, hasB (obR os f n) a = true ↔ ∃ k : Nat, k < n /\ giI os k f = a
 | 0 => ⟨fun h => absurd (has_m.1 h) (List.not_mem_nil), fun ⟨k, hk, _⟩ => absurd hk (Nat.not_lt_zero _)⟩
 | n + 1 => by
   rw [obR, has_app, Bool.or_eq_true, has_obR n, has_one]
   constructor
   ·rintro (⟨k, hk, e⟩ | e)
    ·exact ⟨k, by omega, e⟩
    ·exact ⟨n, by omega, e⟩
   ·rintro ⟨k, hk, e⟩
    by_cases c : k = n
    ·subst c; exact .inr e
    ·exact .inl ⟨k, by omega, e⟩
theorem has_clR {ls : List (List L)} {a : Int} : ∀ n, hasB (clR ls n) a = true ↔ ∃ k : Nat, k < n /\ hasB (gsI ls k 0) a = true
 | 0 => ⟨fun h => absurd (has_m.1 h) (List.not_mem_nil), fun ⟨k, hk, _⟩ => absurd hk (Nat.not_lt_zero _)⟩
 | n + 1 => by
   rw [clR, has_app, Bool.or_eq_true, has_clR n]
   constructor
   ·rintro (⟨k, hk, e⟩ | e)
    ·exact ⟨k, by omega, e⟩
    ·exact ⟨n, by omega, e⟩
   ·rintro ⟨k, hk, e⟩
    by_cases c : k = n
    ·subst c; exact .inr e
    ·exact .inl ⟨k, by omega, e⟩
theorem has_ccR {cs : List (List L)} {a : Int} : ∀ n, hasB (ccR cs n) a = true ↔ ∃ k : Nat, k < n /\ hasB (clR (gsI cs k 0) (gsI cs k 0).length) a = true
 | 0 => ⟨fun h => absurd (has_m.1 h) (List.not_mem_nil), fun ⟨k, hk, _⟩ => absurd hk (Nat.not_lt_zero _)⟩
 | n + 1 => by
   rw [ccR, has_app, Bool.or_eq_true, has_ccR n]
   constructor
   ·rintro (⟨k, hk, e⟩ | e)
    ·exact ⟨k, by omega, e⟩
    ·exact ⟨n, by omega, e⟩
   ·rintro ⟨k, hk, e⟩
    by_cases c : k = n
    ·subst c; exact .inr e
    ·exact .inl ⟨k, by omega, e⟩
theorem first_iff {p : Int -> Bool} {n : Nat} : 0 <= firstI p n ↔ ∃ k : Nat, k < n /\ p k = true := by
 constructor
 ·intro h
  obtain ⟨h1, h2⟩ := first_p h
  obtain ⟨k, e⟩ := Int.eq_ofNat_of_zero_le h
  rw [e] at h1 h2
  exact ⟨k, by omega, h2⟩
 ·rintro ⟨k, h1, h2⟩
  exact first_ge h1 h2
theorem lk_iff {cs : List (List L)} {a : Int} : lkB cs a = true ↔ hasB (ccR cs cs.length) a = true := by
 unfold lkB lkI
 rw [decide_eq_true_eq, first_iff, has_ccR]
 refine exists_congr fun k => and_congr_right fun _ => ?_
 unfold isLk chB chI
 rw [decide_eq_true_eq, first_iff, has_clR]
 rfl
theorem qt_iff {qs : List (List L)} {a : Int} : qtB qs a = true ↔ hasB (obR qs 0 qs.length) a = true := by
 unfold qtB qtI
 rw [decide_eq_true_eq, first_iff, has_obR]
 refine exists_congr fun k => and_congr_right fun _ => ?_
 unfold isQt
 exact ⟨fun h => by simpa [eqB] using h, fun h => eqB_t h⟩
theorem ob_iff {os : List (List L)} {a : Int} : 0 <= obI os a ↔ hasB (obR os 1 os.length) a = true := by
 unfold obI
 rw [first_iff, has_obR]
 refine exists_congr fun k => and_congr_right fun _ => ?_
 unfold isOb
 exact ⟨fun h => by simpa [eqB] using h, fun h => eqB_t h⟩
def nhB (os cs qs b x : List (List L)) (a : Int) : Bool := !hasB (hdL os cs qs b x) a
theorem nh_t {os cs qs b x : List (List L)} {a : Int} (h1 : obI os a < 0) (h2 : lkB cs a = false) (h3 : qtB qs a = false) (h4 : hasB (ifL b x) a = false) : nhB os cs qs b x a = true := by
 unfold nhB hdL
 rw [has_app, has_app, has_app, h4]
 have q1 : hasB (obR os 1 os.length) a = false := by
  cases c : hasB (obR os 1 os.length) a with
  | false => rfl
  | true => have := ob_iff.2 c; omega
 have q2 : hasB (ccR cs cs.length) a = false := by
  cases c : hasB (ccR cs cs.length) a with
  | false => rfl
  | true => rw [lk_iff.2 c] at h2; cases h2
 have q3 : hasB (obR qs 0 qs.length) a = false := by
  cases c : hasB (obR qs 0 qs.length) a with
  | false => rfl
  | true => rw [qt_iff.2 c] at h3; cases h3
 rw [q1, q2, q3]; rfl
theorem nh_f1 {os cs qs b x : List (List L)} {a : Int} (h : 0 <= obI os a) : nhB os cs qs b x a = false := by
 unfold nhB hdL; rw [has_app, has_app, has_app, ob_iff.1 h]; rfl
theorem nh_f2 {os cs qs b x : List (List L)} {a : Int} (h : lkB cs a = true) : nhB os cs qs b x a = false := by
 unfold nhB hdL; rw [has_app, has_app, has_app, lk_iff.1 h]; simp
theorem nh_f3 {os cs qs b x : List (List L)} {a : Int} (h : qtB qs a = true) : nhB os cs qs b x a = false := by
 unfold nhB hdL; rw [has_app, has_app, has_app, qt_iff.1 h]; simp
theorem nh_f4 {os cs qs b x : List (List L)} {a : Int} (h : hasB (ifL b x) a = true) : nhB os cs qs b x a = false := by
 unfold nhB hdL; rw [has_app, has_app, has_app, h]; simp
theorem nh_h {os cs qs b x : List (List L)} {a : Int} {c : Bool} (h : hasB (hdL os cs qs b x) a = c) : nhB os cs qs b x a = !c := by unfold nhB; rw [h]
def flN (p : Int -> Bool) (l : List (List L)) : Nat -> List (List L)
 | 0 => []
 | n + 1 => flN p l n ++ (if p (giI l n 0) then [[.v (.int .i64 (giI l n 0))]] else [])
def lksL (sp lg os cs b x qs : List (List L)) : List (List L) := flN (nhB os cs qs b x) (laL sp lg) (laL sp lg).length
structure FltP (p : Int -> Bool) (l : List (List L)) (i : Int) (o : List (List L)) : Prop where
 e : o = flN p l i.toNat
 l : o.length <= i.toNat
section
variable {p : Int -> Bool} {l o : List (List L)} {i : Int}
theorem flt_0 : FltP p l 0 [] := ⟨rfl, Nat.zero_le _⟩
theorem flt_yes (h : FltP p l i o) (i0 : 0 <= i) (hp : p (giI l i 0) = true) : FltP p l (i + 1) (o ++ [[.v (.int .i64 (giI l i 0))]]) := by
 have q := h.l
 refine ⟨by rw [show (i + 1).toNat = i.toNat + 1 from by omega, flN, Int.toNat_of_nonneg i0, if_pos hp, <- h.e], ?_⟩
 rw [List.length_append, List.length_cons, List.length_nil]; omega
theorem flt_no (h : FltP p l i o) (i0 : 0 <= i) (hp : p (giI l i 0) = false) : FltP p l (i + 1) o := by
 have q := h.l
 refine ⟨by rw [show (i + 1).toNat = i.toNat + 1 from by omega, flN, Int.toNat_of_nonneg i0, hp, <- h.e]; simp, by omega⟩
theorem flt_end (h : FltP p l i o) (i1 : i <= l.length) (i2 : (l.length : Int) <= i) : o = flN p l l.length := by rw [h.e, show i.toNat = l.length from by omega]
end
theorem la_len {sp lg : List (List L)} : (laL sp lg).length <= 512 := by
 have k : ∀ n, (laN sp lg n).length <= n := by
  intro n
  induction n with
  | zero => exact Nat.le_refl _
  | succ n ih => rw [laN, List.length_append]; split <;> simp <;> omega
 unfold laL; split
 ·exact k 512
 ·exact Nat.zero_le _
theorem la_rw {sp lg : List (List L)} : Rw [tI] (laL sp lg) := by
 unfold laL
 by_cases c : layOk sp lg = true
 ·rw [if_pos c, laN_eq]
  refine rwL_rw (fun x hx => ?_) ?_
  ·have := mem_lvN.1 hx; omega
  ·have q := la_len (sp := sp) (lg := lg); unfold laL at q; rw [if_pos c, laN_eq, rwL_len] at q; omega
 ·rw [if_neg c]; exact Rw.nil
theorem flt_rw {p : Int -> Bool} {l : List (List L)} (h : Rw [tI] l) (hl : l.length <= 1099511627776) : ∀ n, n <= l.length -> Rw [tI] (flN p l n) /\ (flN p l n).length <= n
 | 0, _ => ⟨Rw.nil, Nat.zero_le _⟩
 | n + 1, hn => by
   obtain ⟨q1, q2⟩ := flt_rw (p := p) h hl n (by omega)
   rw [flN]
   by_cases c : p (giI l n 0) = true
   ·rw [if_pos c]
    exact ⟨Rw.append q1 (rw_1 (gi_rg h rfl (by omega))) (by unfold maxLen; simp only [List.length_cons, List.length_nil]; omega), by rw [List.length_append, List.length_cons, List.length_nil]; omega⟩
   ·rw [if_neg c, List.append_nil]; exact ⟨q1, by omega⟩
theorem lks_rw {sp lg os cs b x qs : List (List L)} : Rw [tI] (lksL sp lg os cs b x qs) /\ (lksL sp lg os cs b x qs).length <= 512 := by
 obtain ⟨h1, h2⟩ := flt_rw (p := nhB os cs qs b x) (la_rw (sp := sp) (lg := lg)) (by have := la_len (sp := sp) (lg := lg); omega) _ (Nat.le_refl _)
 exact ⟨h1, Nat.le_trans h2 la_len⟩
theorem own1L {l : List (List L)} {i : Int} (h : Rw [tI] l) (h0 : 0 <= i) (h1 : i < l.length) : ∃ rec o, getR (L.s 1 l) [(i.toNat, 0)] = some (rec, o) /\ o + [L.v (Value.int IntKind.i64 0)].length <= rec.length /\ List.take [L.v (Value.int IntKind.i64 0)].length (List.drop o rec) = etaP stdO (L.s 1 l) [(i.toNat, 0)] 0 [L.v (Value.int IntKind.i64 0)] :=
 row_load (z0 := [.v (.int .i64 0)]) (z := [.v (.int .i64 0)]) h.wf (by omega) rfl (by decide)
theorem gs_len {es : List (List L)} {i : Int} {j : Nat} : cntE (gsI es i j) <= cntE es := by
 by_cases c : i.toNat < es.length
 ·have q := gs_cnt (j := j) c
  rw [show gsI es (i.toNat : Nat) j = gsI es i j from by unfold gsI; rw [Int.toNat_natCast]] at q
  have d := cntEs_take c
  have e := cntEs_le (es := es) (n := i.toNat + 1)
  unfold cntE at q ⊢; omega
 ·have e : gsI es i j = [] := by
   unfold gsI; rw [List.getD_eq_getElem?_getD (l := es), List.getElem?_eq_none (by omega)]; simp [lfS]
  rw [e]; exact Nat.zero_le _
theorem nsL_of {ls : List (List L)} (h : Rw [.sl [tI]] ls) (hc : cntE ls <= 1073741824) : NsL ls := by
 refine ⟨h, by unfold cntE at hc; omega, fun i => ?_⟩
 have := gs_len (es := ls) (i := i) (j := 0)
 unfold cntE at this hc; omega
theorem nsC_of {cs : List (List L)} (h : Rw [.sl [.sl [tI]]] cs) (hc : cntE cs <= 1073741824) : NsC cs := by
 refine ⟨h, by unfold cntE at hc; omega, fun i i0 i1 => nsL_of (Rw.sub (fs := [.sl [.sl [tI]]]) h (by omega) rfl) ?_⟩
 exact Nat.le_trans gs_len hc
theorem nsM_of {b x : List (List L)} (hb : Rw [.sl [tI, tI]] b) (hx : Rw [.sl [tI]] x) (cb : cntE b <= 1073741824) (cx : cntE x <= 1073741824) : NsM b x := by
 refine ⟨hb, hx, by unfold cntE at cb; omega, by unfold cntE at cx; omega, fun i => ?_, fun i => ?_⟩
 ·have := gs_len (es := b) (i := i) (j := 0); unfold cntE at this cb; omega
 ·have := gs_len (es := x) (i := i) (j := 0); unfold cntE at this cx; omega
theorem nsH_of {sp lg os cs b x qs : List (List L)} (hs : Rw [tI, tI, tI] sp) (hl : Rw [tI, tI, tI] lg) (ho : Rw [tI, tI, tI, tI] os) (hc : Rw [.sl [.sl [tI]]] cs) (hb : Rw [.sl [tI, tI]] b) (hx : Rw [.sl [tI]] x) (hq : Rw [tI, tI, tI] qs)
 (cs1 : cntE sp <= 1048576) (cl : cntE lg <= 1048576) (co : cntE os <= 1048576) (cc : cntE cs <= 1048576) (cb : cntE b <= 1048576) (cx : cntE x <= 1048576) (cq : cntE qs <= 1048576) : NsH sp lg os cs b x qs :=
 ⟨hs, hl, ho, hc, hq, nsM_of hb hx (by omega) (by omega), nsC_of hc (by omega), by unfold cntE at cs1; omega, by unfold cntE at cl; omega, by unfold cntE at co; omega, by unfold cntE at cq; omega, by omega⟩
end Go.V