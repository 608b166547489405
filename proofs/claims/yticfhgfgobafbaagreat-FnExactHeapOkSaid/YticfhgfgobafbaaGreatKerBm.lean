/- Contracts. -/
import Derived.Test.YticfhgfgobafbaaGreatKerAm
set_option linter.all false
namespace Go.V
open Go Go.Proofs
set_option maxRecDepth 1000000
set_option maxHeartbeats 8000000
namespace N3
structure aO where
 inR:Int->Int->Int->Bool
 machOk:aa->aa->aa->Bool
abbrev F0 :aO:=⟨inR,machOk⟩
def ct (F:aO):CT:=fun f ds=>match f,ds with
 |87,[.one (.v (.int .i64 x)),.one (.v (.int .i64 a)),.one (.v (.int .i64 b))]=>some (fun _=>True,[.k (F.inR x a b)])
 |71,[.one (.v (.int .i64 x)),.one (.v (.int .i64 a)),.one (.v (.int .i64 b))]=>some (fun _=>True,[.k (F.inR x a b)])
 |150,[.agg [.s 1 cs,.s 1 us,.s 2 es]]=>some (fun _=>Rw [.sl [tI]] cs/\Rw [tB] us/\Rw [tI,tI] es,[.k (F.machOk cs us es)])
 |136,[.agg [.s 1 cs,.s 1 us,.s 2 es]]=>some (fun _=>Rw [.sl [tI]] cs/\Rw [tB] us/\Rw [tI,tI] es,[.k (F.machOk cs us es)])
 |_,_=>none
theorem aj :aR (ct F0):=by
 intro f ds pre res h hp;unfold ct at h;split at h<;>cases h
 exact aU hp;exact ba hp;exact ma hp;exact mr hp
abbrev B :cD:=tb aj
end N3
theorem nN {cs us es:aa}{c:Int}{rs:aa}(hp:Rw [.sl [tI]] cs/\Rw [tB] us/\Rw [tI,tI] es/\Rw [tI] rs):ao 77 [.agg [.s 1 cs,.s 1 us,.s 2 es,.i c,.s 1 rs]] [.k (kerOk cs us es c rs)]:=by
 obtain⟨hc,hu,ht,hr⟩:=hp;have hm:=hr.1;unfold maxLen at hm;refine cb N3.B Tryz.func77 ?_
 intro O r F hO hr hF;cbv
 repeat' first|apply And.intro|(apply bi<;>intro hb<;>cbv)|(refine⟨[1,6,7,8],[1],Int,fun i=>[.reg 8 (.j i)],fun i=>0<=i/\i<=((rs.length:Nat):Int)/\upto (wz rs) i,fun i=>(rs.length)-i.toNat,⟨0,?_,?_⟩,?_⟩;rotate_left;(focus (cbv;done));intro i hi;replace hi:0<=i/\i<=((rs.length:Nat):Int)/\upto (wz rs) i:=hi;obtain⟨i0,i1,i2⟩:=hi;cbv)|(refine ab (O.ar .add .i64 i 1) ?_ ?_ ?_;focus (cbv;done))
 all_goals(subst hO hr hF;(try simp only[nc]at*);(try simp only[ai,SS,sa,az]at*);(try rw[cB (by omega) (by omega)]))
 all_goals first
  | (show(_:List DV)=_
     first
      |exact ag (CN i0 (by assumption) (by assumption)).symm
      |exact ag (yU (by assumption)).symm
      |exact ag (Eb (Ey (by omega))).symm
      |(refine ag ?_;unfold kerOk;rw[show inR c 0 100000=true from by assumption,Ez i2 (by omega) (by omega)];simp)
      |done)
  |omega
  |exact eZ
  |exact aY
  |exact aP i2 (CM (by omega))
  |exact⟨hc,hu,ht⟩
  |trace_state
theorem oN {cs us es:aa}{c:Int}{rs:aa}(hp:Rw [.sl [tI]] cs/\Rw [tB] us/\Rw [tI,tI] es/\Rw [tI] rs):ao 63 [.agg [.s 1 cs,.s 1 us,.s 2 es,.i c,.s 1 rs]] [.k (kerOk cs us es c rs)]:=by
 obtain⟨hc,hu,ht,hr⟩:=hp;have hm:=hr.1;unfold maxLen at hm;refine cb N3.B Tryz.func63 ?_
 intro O r F hO hr hF;cbv
 repeat' first|apply And.intro|(apply bi<;>intro hb<;>cbv)|(refine⟨[1,3],[1],Int,fun i=>[.reg 3 (.j i)],fun i=>0<=i/\i<=((rs.length:Nat):Int)/\upto (wz rs) i,fun i=>(rs.length)-i.toNat,⟨0,?_,?_⟩,?_⟩;rotate_left;(focus (cbv;done));intro i hi;replace hi:0<=i/\i<=((rs.length:Nat):Int)/\upto (wz rs) i:=hi;obtain⟨i0,i1,i2⟩:=hi;cbv)|(refine ab (O.ar .add .i64 i 1) ?_ ?_ ?_;focus (cbv;done))
 all_goals(subst hO hr hF;(try simp only[nc]at*);(try simp only[ai,SS,sa,az]at*);(try rw[cB (by omega) (by omega)]))
 all_goals first
  | (show(_:List DV)=_
     first
      |exact ag (CN i0 (by assumption) (by assumption)).symm
      |exact ag (Ea (by assumption)).symm
      |exact ag (yU (by assumption)).symm
      |(refine ag ?_;unfold kerOk nH;rw[show machOk cs us es=true from by assumption,show inR c 0 100000=true from by assumption,bc i2 (by omega)];refine dr ?_;simp only[SS,Bool.true_and,decide_eq_true_eq];omega)
      |done)
  |omega
  |exact eZ
  |exact aY
  |exact aP i2 (CM (by omega))
  |exact⟨hc,hu,ht⟩
  |trace_state
end Go.V