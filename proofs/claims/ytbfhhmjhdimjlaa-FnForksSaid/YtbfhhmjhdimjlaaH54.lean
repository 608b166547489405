/-
  Frames in use, and what a machine's cell holds, in plain words.
-/
import Derived.Test.YtbfhhmjhdimjlaaH5
set_option linter.all false
namespace Go.V
def unN (us : List (List L)) : Nat -> Int
 | 0 => 0
 | n + 1 => if gbI us n 0 = true then unN us n + 1 else unN us n
def ufN (cs us : List (List L)) : Int := if framesOk cs us = true then unN us us.length else 0
def ldV (cs us es : List (List L)) (a : Int) : Int := if machOk cs us es = true /\ leM es a ≠ 0 then giI (gsI cs (leF es a) 0) (leK a) 0 else 0
def ldK (cs us es : List (List L)) (a : Int) : Int := if machOk cs us es = true /\ leM es a ≠ 0 then 0 else 1
theorem ld_yes {cs us es : List (List L)} {a : Int} (h : machOk cs us es = true) (h1 : leM es a ≠ 0) : ldV cs us es a = giI (gsI cs (leF es a) 0) (leK a) 0 /\ ldK cs us es a = 0 := by unfold ldV ldK; rw [if_pos ⟨h, h1⟩, if_pos ⟨h, h1⟩]; exact ⟨rfl, rfl⟩
theorem ld_no {cs us es : List (List L)} {a : Int} (h : machOk cs us es = false \/ leM es a = 0) : ldV cs us es a = 0 /\ ldK cs us es a = 1 := by
 have : ¬ (machOk cs us es = true /\ leM es a ≠ 0) := by rintro ⟨x, y⟩; rcases h with q | q; rw [x] at q; cases q; exact y q
 unfold ldV ldK; rw [if_neg this, if_neg this]; exact ⟨rfl, rfl⟩
theorem ld_fr {cs us es : List (List L)} {a : Int} (h : machOk cs us es = true) (h1 : leM es a ≠ 0) : 0 <= leF es a /\ leF es a < cs.length /\ (gsI cs (leF es a) 0).length = 16 := by
 have t := mc_ok h
 have ha : ¬ a < 0 := fun q => h1 (le_neg q).1
 have p := le_pos (es := es) ha
 rw [p.1] at h1; rw [p.2.1]
 have f := pe_fr t.2.1 h1
 exact ⟨f.1, f.2.1, fr_at t.1 f.1 f.2.1⟩
end Go.V