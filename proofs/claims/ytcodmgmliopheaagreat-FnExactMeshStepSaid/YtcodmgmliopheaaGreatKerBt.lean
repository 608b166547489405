/- Contracts. -/
import Derived.Test.YtcodmgmliopheaaGreatKerAt
set_option linter.all false
open Go
open And renaming intro->AT
namespace Go.V
open Go Go.Proofs
set_option maxRecDepth 1000000
set_option maxHeartbeats 8000000
namespace N3
structure aQ where
 inR:Int->Int->Int->Bool
 machOk:aa->aa->aa->Bool
abbrev F0 :aQ:=⟨inR,machOk⟩
def ct (F:aQ):CT:=fun f ds=>match f,ds with
 |91,[.one (.v (.int .i64 x)),.one (.v (.int .i64 a)),.one (.v (.int .i64 b))]=>some (fun _=>True,[.k (F.inR x a b)])
 |89,[.one (.v (.int .i64 x)),.one (.v (.int .i64 a)),.one (.v (.int .i64 b))]=>some (fun _=>True,[.k (F.inR x a b)])
 |284,[.agg [.s 1 cs,.s 1 us,.s 2 es]]=>some (fun _=>Rw [.sl [tI]] cs/\Rw [tB] us/\Rw [tI,tI] es,[.k (F.machOk cs us es)])
 |263,[.agg [.s 1 cs,.s 1 us,.s 2 es]]=>some (fun _=>Rw [.sl [tI]] cs/\Rw [tB] us/\Rw [tI,tI] es,[.k (F.machOk cs us es)])
 |_,_=>none
theorem aj :aR (ct F0):=by
 intro f ds pre res h hp;unfold ct at h;split at h<;>cases h
 exact bc hp;exact be hp;exact iC hp;exact iD hp
abbrev B :cy:=tb aj
end N3
theorem jO {cs us es:aa}{c:Int}{rs:aa}(hp:Rw [.sl [tI]] cs/\Rw [tB] us/\Rw [tI,tI] es/\Rw [tI] rs):aw 166 [.agg [.s 1 cs,.s 1 us,.s 2 es,.i c,.s 1 rs]] [.k (kerOk cs us es c rs)]:=by
 obtain⟨hc,hu,ht,hr⟩:=hp;have hm:=hr.1;unfold maxLen at hm;refine cb N3.B Tryz.func166 ?_
 intro O r F hO hr hF;cbv
 repeat' first|apply AT|(apply bi<;>intro hb<;>cbv)|(refine⟨[1,6,7,8],[1],Int,fun i=>[.reg 8 (.j i)],fun i=>0<=i/\i<=((rs.length:Nat):Int)/\upto (AU rs) i,fun i=>(rs.length)-i.toNat,⟨0,?_,?_⟩,?_⟩;rotate_left;(focus (cbv;done));intro i hi;replace hi:0<=i/\i<=((rs.length:Nat):Int)/\upto (AU rs) i:=hi;obtain⟨i0,i1,i2⟩:=hi;cbv)|(refine ab (O.ar .add .i64 i 1) ?_ ?_ ?_;focus (cbv;done))
 all_goals(subst hO hr hF;(try simp only[nc]at*);(try simp only[ah,SS,sa,az]at*);(try rw[cE (by omega) (by omega)]))
 all_goals first
  | (show(_:List DV)=_
     first
      |exact ai (GW i0 (by assumption) (by assumption)).symm
      |exact ai (De (by assumption)).symm
      |exact ai (Il (IL (by omega))).symm
      |(refine ai ?_;unfold kerOk;rw[show inR c 0 100000=true from by assumption,IM i2 (by omega) (by omega)];simp)
      |done)
  |omega
  |exact fe
  |exact bu
  |exact aY i2 (GV (by omega))
  |exact⟨hc,hu,ht⟩
  |trace_state
theorem jS {cs us es:aa}{c:Int}{rs:aa}(hp:Rw [.sl [tI]] cs/\Rw [tB] us/\Rw [tI,tI] es/\Rw [tI] rs):aw 134 [.agg [.s 1 cs,.s 1 us,.s 2 es,.i c,.s 1 rs]] [.k (kerOk cs us es c rs)]:=by
 obtain⟨hc,hu,ht,hr⟩:=hp;have hm:=hr.1;unfold maxLen at hm;refine cb N3.B Tryz.func134 ?_
 intro O r F hO hr hF;cbv
 repeat' first|apply AT|(apply bi<;>intro hb<;>cbv)|(refine⟨[1,3],[1],Int,fun i=>[.reg 3 (.j i)],fun i=>0<=i/\i<=((rs.length:Nat):Int)/\upto (AU rs) i,fun i=>(rs.length)-i.toNat,⟨0,?_,?_⟩,?_⟩;rotate_left;(focus (cbv;done));intro i hi;replace hi:0<=i/\i<=((rs.length:Nat):Int)/\upto (AU rs) i:=hi;obtain⟨i0,i1,i2⟩:=hi;cbv)|(refine ab (O.ar .add .i64 i 1) ?_ ?_ ?_;focus (cbv;done))
 all_goals(subst hO hr hF;(try simp only[nc]at*);(try simp only[ah,SS,sa,az]at*);(try rw[cE (by omega) (by omega)]))
 all_goals first
  | (show(_:List DV)=_
     first
      |exact ai (GW i0 (by assumption) (by assumption)).symm
      |exact ai (Ik (by assumption)).symm
      |exact ai (De (by assumption)).symm
      |(refine ai ?_;unfold kerOk ox;rw[show machOk cs us es=true from by assumption,show inR c 0 100000=true from by assumption,bA i2 (by omega)];refine eA ?_;simp only[SS,Bool.true_and,decide_eq_true_eq];omega)
      |done)
  |omega
  |exact fe
  |exact bu
  |exact aY i2 (GV (by omega))
  |exact⟨hc,hu,ht⟩
  |trace_state
end Go.V