/-
  Whose address it is: the first span with a slot there, then the first large object.
-/import Derived.Test.YticfhgfgobafbaaGreatH34
set_option linter.all false
namespace Go.V
def sAt (sp : List (List L)) (a : Int) (i : Int) : Bool := decide (0 <= saS (giI sp i 0) (giI sp i 1) (giI sp i 2) a)
def lAt (lg : List (List L)) (a : Int) (i : Int) : Bool := lhB (giI lg i 0) (giI lg i 1) (giI lg i 2) a
def fsI (sp : List (List L)) (a : Int) : Int := firstI (sAt sp a) sp.length
def flI (lg : List (List L)) (a : Int) : Int := firstI (lAt lg a) lg.length
def slA (sp : List (List L)) (a : Int) (i : Int) : Int := saS (giI sp i 0) (giI sp i 1) (giI sp i 2) a
def soA (sp : List (List L)) (a : Int) (i : Int) : Int := saO (giI sp i 0) (giI sp i 1) (giI sp i 2) a
def loA (lg : List (List L)) (a : Int) (i : Int) : Int := loI (giI lg i 0) (giI lg i 1) (giI lg i 2) a
def dnK (sp lg : List (List L)) (a : Int) : Int := if 0 <= fsI sp a then (if hsB (giI sp (fsI sp a) 2) (slA sp a (fsI sp a)) then 1 else 2) else if 0 <= flI lg a then 3 else 0
def dnI (sp lg : List (List L)) (a : Int) : Int := if 0 <= fsI sp a then fsI sp a else if 0 <= flI lg a then flI lg a else 0
def dnS (sp : List (List L)) (a : Int) : Int := if 0 <= fsI sp a then slA sp a (fsI sp a) else 0
def dnO (sp lg : List (List L)) (a : Int) : Int := if 0 <= fsI sp a then soA sp a (fsI sp a) else if 0 <= flI lg a then loA lg a (flI lg a) else 0
def dzK (sp lg : List (List L)) (a : Int) : Int := if layOk sp lg then dnK sp lg a else 0
def dzI (sp lg : List (List L)) (a : Int) : Int := if layOk sp lg then dnI sp lg a else 0
def dzS (sp lg : List (List L)) (a : Int) : Int := if layOk sp lg then dnS sp a else 0
def dzO (sp lg : List (List L)) (a : Int) : Int := if layOk sp lg then dnO sp lg a else 0
theorem s_no {sp : List (List L)} {a i : Int} (h : upto (notB (sAt sp a)) i) (hs : saS (giI sp i 0) (giI sp i 1) (giI sp i 2) a < 0) : upto (notB (sAt sp a)) (i + 1) :=
 upto_s h (by unfold notB sAt; rw [decide_eq_false (by omega)]; rfl)
theorem l_no {lg : List (List L)} {a i : Int} (h : upto (notB (lAt lg a)) i) (hs : lhB (giI lg i 0) (giI lg i 1) (giI lg i 2) a = false) : upto (notB (lAt lg a)) (i + 1) :=
 upto_s h (by unfold notB lAt; rw [hs]; rfl)
theorem fs_at {sp : List (List L)} {a i : Int} (h : upto (notB (sAt sp a)) i) (h0 : 0 <= i) (h1 : i < sp.length) (hs : 0 <= saS (giI sp i 0) (giI sp i 1) (giI sp i 2) a) : fsI sp a = i :=
 first_at h h0 h1 (decide_eq_true hs)
theorem fs_no {sp : List (List L)} {a i : Int} (h : upto (notB (sAt sp a)) i) (h1 : (sp.length : Int) <= i) : fsI sp a = -1 := first_no h h1
theorem fl_at {lg : List (List L)} {a i : Int} (h : upto (notB (lAt lg a)) i) (h0 : 0 <= i) (h1 : i < lg.length) (hs : lhB (giI lg i 0) (giI lg i 1) (giI lg i 2) a = true) : flI lg a = i :=
 first_at h h0 h1 hs
theorem fl_no {lg : List (List L)} {a i : Int} (h : upto (notB (lAt lg a)) i) (h1 : (lg.length : Int) <= i) : flI lg a = -1 := first_no h h1
def owL (k i s o : Int) : List DV := [DV.agg [.v (.int .i64 k), .v (.int .i64 i), .v (.int .i64 s), .v (.int .i64 o)]]
def dnL (sp lg : List (List L)) (a : Int) : List DV := owL (dnK sp lg a) (dnI sp lg a) (dnS sp a) (dnO sp lg a)
def dzL (sp lg : List (List L)) (a : Int) : List DV := owL (dzK sp lg a) (dzI sp lg a) (dzS sp lg a) (dzO sp lg a)
theorem ow1 {sp lg : List (List L)} {a i : Int} (h : upto (notB (sAt sp a)) i) (h0 : 0 <= i) (h1 : i < sp.length) (hs : 0 <= saS (giI sp i 0) (giI sp i 1) (giI sp i 2) a) (hh : hsB (giI sp i 2) (saS (giI sp i 0) (giI sp i 1) (giI sp i 2) a) = true) :
 owL 1 i (saS (giI sp i 0) (giI sp i 1) (giI sp i 2) a) (saO (giI sp i 0) (giI sp i 1) (giI sp i 2) a) = dnL sp lg a := by
 have e := fs_at h h0 h1 hs
 unfold dnL dnK dnI dnS dnO slA soA
 rw [e, if_pos h0, if_pos h0, if_pos h0, if_pos h0, hh]; rfl
theorem ow2 {sp lg : List (List L)} {a i : Int} (h : upto (notB (sAt sp a)) i) (h0 : 0 <= i) (h1 : i < sp.length) (hs : 0 <= saS (giI sp i 0) (giI sp i 1) (giI sp i 2) a) (hh : hsB (giI sp i 2) (saS (giI sp i 0) (giI sp i 1) (giI sp i 2) a) = false) :
 owL 2 i (saS (giI sp i 0) (giI sp i 1) (giI sp i 2) a) (saO (giI sp i 0) (giI sp i 1) (giI sp i 2) a) = dnL sp lg a := by
 have e := fs_at h h0 h1 hs
 unfold dnL dnK dnI dnS dnO slA soA
 rw [e, if_pos h0, if_pos h0, if_pos h0, if_pos h0, hh]; rfl
theorem ow3 {sp lg : List (List L)} {a i j : Int} (h : upto (notB (sAt sp a)) i) (h1 : (sp.length : Int) <= i) (g : upto (notB (lAt lg a)) j) (j0 : 0 <= j) (j1 : j < lg.length) (hh : lhB (giI lg j 0) (giI lg j 1) (giI lg j 2) a = true) :
 owL 3 j 0 (loI (giI lg j 0) (giI lg j 1) (giI lg j 2) a) = dnL sp lg a := by
 have e := fs_no h h1
 have f := fl_at g j0 j1 hh
 have n : ¬ (0 : Int) <= -1 := by omega
 unfold dnL dnK dnI dnS dnO loA
 rw [e, f, if_neg n, if_neg n, if_neg n, if_neg n, if_pos j0, if_pos j0, if_pos j0]
theorem ow4 {sp lg : List (List L)} {a i j : Int} (h : upto (notB (sAt sp a)) i) (h1 : (sp.length : Int) <= i) (g : upto (notB (lAt lg a)) j) (j1 : (lg.length : Int) <= j) :
 owL 0 0 0 0 = dnL sp lg a := by
 have e := fs_no h h1
 have f := fl_no g j1
 have n : ¬ (0 : Int) <= -1 := by omega
 unfold dnL dnK dnI dnS dnO
 rw [e, f, if_neg n, if_neg n, if_neg n, if_neg n, if_neg n, if_neg n, if_neg n]
theorem dz_t {sp lg : List (List L)} {a : Int} (h : layOk sp lg = true) : dnL sp lg a = dzL sp lg a := by
 unfold dzL dnL dzK dzI dzS dzO
 rw [if_pos h, if_pos h, if_pos h, if_pos h]
theorem dz_f {sp lg : List (List L)} {a : Int} (h : layOk sp lg = false) : owL 0 0 0 0 = dzL sp lg a := by
 have n : ¬ layOk sp lg = true := by rw [h]; decide
 unfold dzL dzK dzI dzS dzO
 rw [if_neg n, if_neg n, if_neg n, if_neg n]
end Go.V