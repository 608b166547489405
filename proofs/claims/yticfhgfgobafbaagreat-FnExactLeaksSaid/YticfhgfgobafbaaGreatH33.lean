/-
  A layout of spans and large objects, in plain words.
-/import Derived.Test.YticfhgfgobafbaaGreatH32
set_option linter.all false
namespace Go.V
def rwL (l : List Int) : List (List L) := l.map fun x => [.v (.int .i64 x)]
theorem rwL_len {l : List Int} : (rwL l).length = l.length := by unfold rwL; rw [List.length_map]
theorem rwL_app {a b : List Int} : rwL (a ++ b) = rwL a ++ rwL b := by unfold rwL; rw [List.map_append]
theorem rwL_gi {l : List Int} {k : Nat} (h : k < l.length) : giI (rwL l) k 0 = l[k] := by
 have e : (rwL l).getD k [] = [.v (.int .i64 l[k])] := by
  unfold rwL; rw [List.getD_eq_getElem?_getD, List.getElem?_map, List.getElem?_eq_getElem h]; rfl
 unfold giI
 rw [Int.toNat_natCast, e]; rfl
theorem has_rwL {l : List Int} {x : Int} : hasB (rwL l) x = true ↔ x ∈ l := by
 rw [has_t]
 constructor
 ·rintro ⟨k, hk, e⟩
  rw [rwL_len] at hk
  rw [rwL_gi hk] at e
  rw [<- e]; exact List.getElem_mem hk
 ·intro h
  obtain ⟨k, hk, e⟩ := List.getElem_of_mem h
  exact ⟨k, by rw [rwL_len]; exact hk, by rw [rwL_gi hk]; exact e⟩
theorem has_rwF {l : List Int} {x : Int} (h : hasB (rwL l) x = false) : x ∉ l := fun m => by rw [has_rwL.2 m] at h; cases h
theorem rwL_rw {l : List Int} (h : ∀ x ∈ l, -9223372036854775808 <= x /\ x <= 9223372036854775807) (hl : l.length <= 70368744177664) : Rw [tI] (rwL l) := by
 refine ⟨by rw [rwL_len]; unfold maxLen; omega, fun e he => ?_⟩
 obtain ⟨x, hx, rfl⟩ := List.mem_map.1 he
 have q := h x hx
 exact ⟨⟨rfl, by show -9223372036854775808 <= x /\ x <= (9223372036854775807 : Int); exact q⟩, trivial⟩
theorem has_no {l : List (List L)} {x i : Int} (h : upto (notB (isX l x)) i) (hi : (l.length : Int) <= i) : hasB l x = false := by
 unfold hasB idxI; rw [first_no h hi]; rfl
def spA (sp : List (List L)) (i : Int) : Bool := spOk (giI sp i 0) (giI sp i 1) (giI sp i 2)
def lgA (lg : List (List L)) (i : Int) : Bool := lgOk (giI lg i 0) (giI lg i 1) (giI lg i 2)
def spP (sp : List (List L)) : Nat -> List Int
 | 0 => []
 | n + 1 => spP sp n ++ [giI sp n 0]
def ptP (p : Int) : Nat -> List Int
 | 0 => []
 | n + 1 => ptP p n ++ [p + n]
def lgP (lg : List (List L)) : Nat -> List Int
 | 0 => []
 | n + 1 => lgP lg n ++ ptP (giI lg n 0) (giI lg n 1).toNat
def pgL (sp lg : List (List L)) : List Int := spP sp sp.length ++ lgP lg lg.length
def layOk (sp lg : List (List L)) : Bool := (allI (spA sp) sp.length && allI (lgA lg) lg.length) && decide (pgL sp lg).Nodup
theorem spP_up {sp : List (List L)} {i : Int} (h : 0 <= i) : spP sp (i + 1).toNat = spP sp i.toNat ++ [giI sp i 0] := by
 rw [show (i + 1).toNat = i.toNat + 1 from by omega, spP, Int.toNat_of_nonneg h]
theorem lgP_up {lg : List (List L)} {i : Int} (h : 0 <= i) : lgP lg (i + 1).toNat = lgP lg i.toNat ++ ptP (giI lg i 0) (giI lg i 1).toNat := by
 rw [show (i + 1).toNat = i.toNat + 1 from by omega, lgP, Int.toNat_of_nonneg h]
theorem ptP_up {p i : Int} (h : 0 <= i) : ptP p (i + 1).toNat = ptP p i.toNat ++ [p + i] := by
 rw [show (i + 1).toNat = i.toNat + 1 from by omega, ptP, Int.toNat_of_nonneg h]
theorem spP_len {sp : List (List L)} : ∀ {n : Nat}, (spP sp n).length = n
 | 0 => rfl
 | n + 1 => by rw [spP, List.length_append, spP_len]; rfl
theorem ptP_len {p : Int} : ∀ {n : Nat}, (ptP p n).length = n
 | 0 => rfl
 | n + 1 => by rw [ptP, List.length_append, ptP_len]; rfl
theorem spP_pre {sp : List (List L)} : ∀ (m n : Nat), n <= m -> ∃ r, spP sp m = spP sp n ++ r
 | 0, n, h => ⟨[], by rw [show n = 0 by omega]; rfl⟩
 | m + 1, n, h => by
   by_cases c : n = m + 1
   ·subst c; exact ⟨[], by simp⟩
   ·obtain ⟨r, e⟩ := spP_pre (sp := sp) m n (by omega)
    exact ⟨r ++ [giI sp m 0], by rw [spP, e, List.append_assoc]⟩
theorem ptP_pre {p : Int} : ∀ (m n : Nat), n <= m -> ∃ r, ptP p m = ptP p n ++ r
 | 0, n, h => ⟨[], by rw [show n = 0 by omega]; rfl⟩
 | m + 1, n, h => by
   by_cases c : n = m + 1
   ·subst c; exact ⟨[], by simp⟩
   ·obtain ⟨r, e⟩ := ptP_pre (p := p) m n (by omega)
    exact ⟨r ++ [p + m], by rw [ptP, e, List.append_assoc]⟩
theorem lgP_pre {lg : List (List L)} : ∀ (m n : Nat), n <= m -> ∃ r, lgP lg m = lgP lg n ++ r
 | 0, n, h => ⟨[], by rw [show n = 0 by omega]; rfl⟩
 | m + 1, n, h => by
   by_cases c : n = m + 1
   ·subst c; exact ⟨[], by simp⟩
   ·obtain ⟨r, e⟩ := lgP_pre (lg := lg) m n (by omega)
    exact ⟨r ++ ptP (giI lg m 0) (giI lg m 1).toNat, by rw [lgP, e, List.append_assoc]⟩
theorem dup {a b l : List Int} {x : Int} (h : l = a ++ x :: b) (hm : x ∈ a) : ¬ l.Nodup := by
 rw [h, List.nodup_append]
 rintro ⟨_, _, q⟩
 exact q x hm x (by simp) rfl
theorem nd_snoc {a : List Int} {x : Int} (h : a.Nodup) (hx : x ∉ a) : (a ++ [x]).Nodup := by
 rw [List.nodup_append]
 exact ⟨h, by simp, fun y hy z hz e => by simp at hz; subst hz; subst e; exact hx hy⟩
theorem lay_no1 {sp lg : List (List L)} {i : Int} (h0 : 0 <= i) (h1 : i < sp.length) (h : spOk (giI sp i 0) (giI sp i 1) (giI sp i 2) = false) : layOk sp lg = false := by
 unfold layOk; rw [allI_f h0 h1 h]; rfl
theorem lay_no2 {sp lg : List (List L)} {i : Int} (h0 : 0 <= i) (h1 : i < lg.length) (h : lgOk (giI lg i 0) (giI lg i 1) (giI lg i 2) = false) : layOk sp lg = false := by
 unfold layOk; rw [allI_f (p := lgA lg) h0 h1 h, Bool.and_false]; rfl
theorem lay_no3 {sp lg : List (List L)} {i : Int} (h0 : 0 <= i) (h1 : i < sp.length) (h : giI sp i 0 ∈ spP sp i.toNat) : layOk sp lg = false := by
 obtain ⟨r, e⟩ := spP_pre (sp := sp) sp.length (i + 1).toNat (by omega)
 rw [spP_up h0, List.append_assoc] at e
 have : ¬ (pgL sp lg).Nodup := dup (a := spP sp i.toNat) (b := r ++ lgP lg lg.length) (x := giI sp i 0) (by unfold pgL; rw [e, List.append_assoc]; rfl) h
 unfold layOk; rw [decide_eq_false this, Bool.and_false]
theorem lay_no4 {sp lg : List (List L)} {i k : Int} (h0 : 0 <= i) (h1 : i < lg.length) (k0 : 0 <= k) (k1 : k < giI lg i 1) (h : giI lg i 0 + k ∈ spP sp sp.length ++ lgP lg i.toNat ++ ptP (giI lg i 0) k.toNat) : layOk sp lg = false := by
 obtain ⟨r, e⟩ := lgP_pre (lg := lg) lg.length (i + 1).toNat (by omega)
 obtain ⟨r2, e2⟩ := ptP_pre (p := giI lg i 0) (giI lg i 1).toNat (k + 1).toNat (by omega)
 rw [lgP_up h0, e2, ptP_up k0] at e
 have : ¬ (pgL sp lg).Nodup := dup (a := spP sp sp.length ++ lgP lg i.toNat ++ ptP (giI lg i 0) k.toNat) (b := r2 ++ r) (x := giI lg i 0 + k) (by unfold pgL; rw [e]; simp only [List.append_assoc]; rfl) h
 unfold layOk; rw [decide_eq_false this, Bool.and_false]
theorem lay_yes {sp lg : List (List L)} {i j : Int} (h : upto (spA sp) i) (hi : (sp.length : Int) <= i) (h2 : upto (lgA lg) j) (hj : (lg.length : Int) <= j) (hn : (pgL sp lg).Nodup) : layOk sp lg = true := by
 unfold layOk; rw [allI_of h hi, allI_of h2 hj, decide_eq_true hn]; rfl
theorem lay_t {sp lg : List (List L)} (h : layOk sp lg = true) : (∀ i : Int, 0 <= i -> i < sp.length -> spOk (giI sp i 0) (giI sp i 1) (giI sp i 2) = true) /\ (∀ i : Int, 0 <= i -> i < lg.length -> lgOk (giI lg i 0) (giI lg i 1) (giI lg i 2) = true) /\ (pgL sp lg).Nodup := by
 unfold layOk at h
 simp only [Bool.and_eq_true, decide_eq_true_eq] at h
 exact ⟨allI_t.1 h.1.1, allI_t.1 h.1.2, h.2⟩
def WfB (es : List (List L)) : Prop := ∀ e ∈ es, ∃ (k : Int) (b : Bool), e = [.v (.int .i64 k), .v (.bool b)]
theorem mfind_cons {k : Int} {b : Bool} {es : List (List L)} {n : Int} : mfind ([.v (.int .i64 k), .v (.bool b)] :: es) n = if k = n then some (0, .bool b) else (mfind es n).map fun p => (p.1 + 1, p.2) := rfl
theorem mgb_cons {k : Int} {b : Bool} {es : List (List L)} {n : Int} : mgbI ([.v (.int .i64 k), .v (.bool b)] :: es) n = if k = n then b else mgbI es n := by
 unfold mgbI
 rw [mfind_cons]
 by_cases c : k = n
 ·rw [if_pos c, if_pos c]
 ·rw [if_neg c, if_neg c]
  cases mfind es n with
  | none => rfl
  | some p => obtain ⟨j, v⟩ := p; cases v <;> rfl
theorem mu_cons {k : Int} {b x : Bool} {es : List (List L)} {n : Int} : muI ([.v (.int .i64 k), .v (.bool b)] :: es) n (.v (.bool x)) = if k = n then [.v (.int .i64 n), .v (.bool x)] :: es else [.v (.int .i64 k), .v (.bool b)] :: muI es n (.v (.bool x)) := by
 unfold muI
 rw [mfind_cons]
 by_cases c : k = n
 ·rw [if_pos c, if_pos c]; rfl
 ·rw [if_neg c, if_neg c]
  cases mfind es n with
  | none => rfl
  | some p => rfl
theorem mub {x : Bool} {n : Int} : ∀ {es : List (List L)}, WfB es -> WfB (muI es n (.v (.bool x))) /\ ∀ m, mgbI (muI es n (.v (.bool x))) m = if m = n then x else mgbI es m
 | [], _ => by
   refine ⟨fun e he => ?_, fun m => ?_⟩
   ·have : e = [.v (.int .i64 n), .v (.bool x)] := by simpa [muI, mfind] using he
    exact ⟨n, x, this⟩
   ·show mgbI [[.v (.int .i64 n), .v (.bool x)]] m = _
    rw [mgb_cons]
    by_cases c : m = n
    ·rw [if_pos c.symm, if_pos c]
    ·rw [if_neg (fun e => c e.symm), if_neg c]
 | e :: es, h => by
   obtain ⟨k, b, rfl⟩ := h e (by simp)
   have h' : WfB es := fun e he => h e (by simp [he])
   obtain ⟨a1, a2⟩ := mub (x := x) (n := n) h'
   rw [mu_cons]
   by_cases c : k = n
   ·rw [if_pos c]
    refine ⟨fun e he => ?_, fun m => ?_⟩
    ·rcases List.mem_cons.1 he with rfl | he
     ·exact ⟨n, x, rfl⟩
     ·exact h' e he
    ·rw [mgb_cons, mgb_cons]
     by_cases d : m = n
     ·rw [if_pos d.symm, if_pos d]
     ·rw [if_neg (fun e => d e.symm), if_neg d, if_neg (fun e => d (by rw [<- e, c]))]
   ·rw [if_neg c]
    refine ⟨fun e he => ?_, fun m => ?_⟩
    ·rcases List.mem_cons.1 he with rfl | he
     ·exact ⟨k, b, rfl⟩
     ·exact a1 e he
    ·rw [mgb_cons, mgb_cons, a2 m]
     by_cases d : k = m
     ·rw [if_pos d, if_pos d, if_neg (fun e => c (d.trans e))]
     ·rw [if_neg d, if_neg d]
def muT (es : List (List L)) (n : Int) : List (List L) := muI es n (.v (.bool true))
structure SeenB (es : List (List L)) (l : List Int) : Prop where
 wf : WfB es
 at_ : ∀ m, mgbI es m = true ↔ m ∈ l
theorem seen_0 : SeenB [] [] := ⟨(fun e he => by cases he), fun m => by simp [mgbI, mfind]⟩
theorem seen_up {es : List (List L)} {l : List Int} {n : Int} (h : SeenB es l) : SeenB (muI es n (.v (.bool true))) (l ++ [n]) := by
 have q := mub (x := true) (n := n) h.wf
 refine ⟨q.1, fun m => ?_⟩
 rw [q.2 m]
 by_cases c : m = n
 ·rw [if_pos c]; simp [c]
 ·rw [if_neg c, h.at_ m]; simp [c]
def one (x : Int) : List (List L) := [[.v (.int .i64 x)]]
structure LsP (sp : List (List L)) (i : Int) (o : List (List L)) : Prop where
 e : o = rwL (spP sp i.toNat)
 nd : (spP sp i.toNat).Nodup
 ok : upto (spA sp) i
 b : ∀ x ∈ spP sp i.toNat, 0 <= x /\ x <= 64
structure LlP (sp lg : List (List L)) (j : Int) (o : List (List L)) : Prop where
 e : o = rwL (spP sp sp.length ++ lgP lg j.toNat)
 nd : (spP sp sp.length ++ lgP lg j.toNat).Nodup
 oks : upto (spA sp) sp.length
 ok : upto (lgA lg) j
 b : ∀ x ∈ spP sp sp.length ++ lgP lg j.toNat, 0 <= x /\ x <= 64
 l : (lgP lg j.toNat).length <= 64 * j.toNat
structure LkP (sp lg : List (List L)) (j k : Int) (o : List (List L)) : Prop where
 e : o = rwL (spP sp sp.length ++ lgP lg j.toNat ++ ptP (giI lg j 0) k.toNat)
 nd : (spP sp sp.length ++ lgP lg j.toNat ++ ptP (giI lg j 0) k.toNat).Nodup
 oks : upto (spA sp) sp.length
 ok : upto (lgA lg) j
 b : ∀ x ∈ spP sp sp.length ++ lgP lg j.toNat ++ ptP (giI lg j 0) k.toNat, 0 <= x /\ x <= 64
 l : (lgP lg j.toNat).length <= 64 * j.toNat
theorem bnd_rw {l : List Int} (h : ∀ x ∈ l, 0 <= x /\ x <= 64) (hl : l.length <= 70368744177664) : Rw [tI] (rwL l) := rwL_rw (fun x hx => by have := h x hx; omega) hl
theorem bnd_snoc {l : List Int} {x : Int} (h : ∀ x ∈ l, 0 <= x /\ x <= 64) (hx : 0 <= x /\ x <= 64) : ∀ y ∈ l ++ [x], 0 <= y /\ y <= 64 := by
 intro y hy
 rcases List.mem_append.1 hy with q | q
 ·exact h y q
 ·simp at q; rw [q]; exact hx
theorem ls_0 {sp : List (List L)} : LsP sp 0 [] := ⟨rfl, List.nodup_nil, upto_z, fun x hx => by cases hx⟩
theorem ls_len {sp o : List (List L)} {i : Int} (h : LsP sp i o) : o.length = i.toNat := by rw [h.e, rwL_len, spP_len]
theorem ls_rw {sp o : List (List L)} {i : Int} (h : LsP sp i o) (hi : i <= 1073741824) : Rw [tI] o := by
 have l := ls_len h
 have e := h.e
 rw [e, rwL_len] at l
 rw [e]; exact bnd_rw h.b (by omega)
theorem ls_dup {sp lg o : List (List L)} {i : Int} (h : LsP sp i o) (h0 : 0 <= i) (h1 : i < sp.length) (hh : hasB o (giI sp i 0) = true) : layOk sp lg = false := by
 rw [h.e, has_rwL] at hh
 exact lay_no3 h0 h1 hh
theorem ls_up {sp o : List (List L)} {i : Int} (h : LsP sp i o) (h0 : 0 <= i) (hs : spOk (giI sp i 0) (giI sp i 1) (giI sp i 2) = true) (hh : hasB o (giI sp i 0) = false) : LsP sp (i + 1) (o ++ [[.v (.int .i64 (giI sp i 0))]]) := by
 have t := sp_t hs
 have e := h.e
 rw [e] at hh
 have hm := has_rwF hh
 exact ⟨by rw [spP_up h0, rwL_app, e]; rfl, by rw [spP_up h0]; exact nd_snoc h.nd hm, upto_s h.ok hs, by rw [spP_up h0]; exact bnd_snoc h.b (by omega)⟩
theorem ls_end {sp lg o : List (List L)} {i : Int} (h : LsP sp i o) (h1 : i <= sp.length) (h2 : (sp.length : Int) <= i) : LlP sp lg 0 o := by
 have e : i.toNat = sp.length := by omega
 have ei : i = sp.length := by omega
 have q1 := h.e; have q2 := h.nd; have q3 := h.ok; have q4 := h.b
 rw [e] at q1 q2 q4
 rw [ei] at q3
 exact ⟨by rw [q1]; simp [lgP], by simpa [lgP] using q2, q3, upto_z, by simpa [lgP] using q4, by simp [lgP]⟩
theorem lk_0 {sp lg o : List (List L)} {j : Int} (h : LlP sp lg j o) : LkP sp lg j 0 o := by
 refine ⟨by rw [h.e]; simp [ptP], by simpa [ptP] using h.nd, h.oks, h.ok, by simpa [ptP] using h.b, h.l⟩
theorem lk_len {sp lg o : List (List L)} {j k : Int} (h : LkP sp lg j k o) : o.length <= sp.length + 64 * j.toNat + k.toNat := by
 have l := h.l
 rw [h.e, rwL_len, List.length_append, List.length_append, spP_len, ptP_len]; omega
theorem lk_rw {sp lg o : List (List L)} {j k : Int} (h : LkP sp lg j k o) (h1 : sp.length <= 1073741824) (h2 : j <= 1073741824) (h3 : k <= 64) : Rw [tI] o := by
 have l := lk_len h
 have e := h.e
 rw [e, rwL_len] at l
 rw [e]; exact bnd_rw h.b (by omega)
theorem lk_dup {sp lg o : List (List L)} {j k : Int} (h : LkP sp lg j k o) (h0 : 0 <= j) (h1 : j < lg.length) (k0 : 0 <= k) (k1 : k < giI lg j 1) (hh : hasB o (giI lg j 0 + k) = true) : layOk sp lg = false := by
 rw [h.e, has_rwL] at hh
 exact lay_no4 h0 h1 k0 k1 hh
theorem lg_p {p n s k : Int} (h : lgOk p n s = true) (k0 : 0 <= k) (k1 : k < n) : 0 <= p /\ p + k <= 32 /\ arI .add .i64 p k = p + k /\ 1 <= n /\ n <= 32 := by
 have t := lg_t h
 have b := pf_b t.1
 have e : arI .add .i64 p k = p + k := add64 (by omega)
 exact ⟨by omega, by omega, e, by omega, by omega⟩
theorem lk_up {sp lg o : List (List L)} {j k : Int} (h : LkP sp lg j k o) (k0 : 0 <= k) (hx : 0 <= giI lg j 0 + k /\ giI lg j 0 + k <= 64) (hh : hasB o (giI lg j 0 + k) = false) : LkP sp lg j (k + 1) (o ++ [[.v (.int .i64 (giI lg j 0 + k))]]) := by
 have e := h.e
 rw [e] at hh
 have hm := has_rwF hh
 have q : ∀ A : List Int, A ++ ptP (giI lg j 0) (k + 1).toNat = A ++ ptP (giI lg j 0) k.toNat ++ [giI lg j 0 + k] := fun A => by rw [ptP_up k0, List.append_assoc]
 exact ⟨by rw [q, rwL_app, e]; rfl, by rw [q]; exact nd_snoc h.nd hm, h.oks, h.ok, by rw [q]; exact bnd_snoc h.b hx, h.l⟩
theorem lk_end {sp lg o : List (List L)} {j k : Int} (h : LkP sp lg j k o) (j0 : 0 <= j) (hl : lgOk (giI lg j 0) (giI lg j 1) (giI lg j 2) = true) (k0 : 0 <= k) (k1 : k <= giI lg j 1) (k2 : giI lg j 1 <= k) : LlP sp lg (j + 1) o := by
 have t := lg_t hl
 have b := pf_b t.1
 have ek : k.toNat = (giI lg j 1).toNat := by omega
 have q1 := h.e; have q2 := h.nd; have q4 := h.b; have q5 := h.l
 rw [ek, List.append_assoc, <- lgP_up j0] at q1 q2 q4
 refine ⟨q1, q2, h.oks, upto_s h.ok hl, q4, ?_⟩
 rw [lgP_up j0, List.length_append, ptP_len]; omega
theorem ll_end {sp lg o : List (List L)} {j : Int} (h : LlP sp lg j o) (j1 : j <= lg.length) (j2 : (lg.length : Int) <= j) : layOk sp lg = true := by
 have e : j.toNat = lg.length := by omega
 have q := h.nd
 rw [e] at q
 exact lay_yes h.oks (Int.le_refl _) h.ok j2 q
end Go.V