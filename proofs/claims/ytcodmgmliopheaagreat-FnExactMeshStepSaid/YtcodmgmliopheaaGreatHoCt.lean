/- Contracts. -/
import Derived.Test.YtcodmgmliopheaaGreatHoAt
import Derived.Test.YtcodmgmliopheaaGreatLayPt
set_option linter.all false
open Go
open And renaming intro->AT
namespace Go.V
open Go Go.Proofs
set_option maxRecDepth 1000000
set_option maxHeartbeats 8000000
namespace Ka0
structure aQ where
 kerOk:aa->aa->aa->Int->aa->Bool
 peM:aa->Int->Int
 peF:aa->Int->Int
abbrev F0 :aQ:=⟨kerOk,peM,peF⟩
def ct (F:aQ):CT:=fun f ds=>match f,ds with
 |166,[.agg [.s 1 cs,.s 1 us,.s 2 es,.v (.int .i64 c),.s 1 rs]]=>some (fun _=>Rw [.sl [tI]] cs/\Rw [tB] us/\Rw [tI,tI] es/\Rw [tI] rs,[.k (F.kerOk cs us es c rs)])
 |134,[.agg [.s 1 cs,.s 1 us,.s 2 es,.v (.int .i64 c),.s 1 rs]]=>some (fun _=>Rw [.sl [tI]] cs/\Rw [tB] us/\Rw [tI,tI] es/\Rw [tI] rs,[.k (F.kerOk cs us es c rs)])
 |234,[.agg [.s 2 es],.one (.v (.int .i64 p))]=>some (fun _=>Rw [tI,tI] es,[.agg [.i (F.peM es p),.i (F.peF es p)]])
 |_,_=>none
theorem aj :aR (ct F0):=by
 intro f ds pre res h hp;unfold ct at h;split at h<;>cases h
 exact jO hp;exact jS hp;exact dY hp
abbrev B :cy:=tb aj
end Ka0
theorem gj {cs us es:aa}{c:Int}{rs:aa}(hp:Rw [.sl [tI]] cs/\Rw [tB] us/\Rw [tI,tI] es/\Rw [tI] rs):aw 333 [.agg [.s 1 cs,.s 1 us,.s 2 es,.i c,.s 1 rs]] [.k (ccB cs us es c rs)]:=by
 refine cb Ka0.B Tryz.func333 ?_
 intro O r F hO hr hF;cbv
 repeat' first|apply AT|(apply bi<;>intro hb<;>cbv)
 all_goals(subst hO hr hF;(try simp only[nc]at*);(try simp only[ah,SS,sa,az]at*))
 all_goals first
  | (show(_:List DV)=_
     first
      |exact ai (N9 (by omega)).symm
      |exact ai (Oa (by omega)).symm
      |done)
  |exact hp
  |(show aV _ _=true;kernel_rfl)
  |done
theorem lU {cs us es:aa}{c:Int}{rs:aa}(hp:Rw [.sl [tI]] cs/\Rw [tB] us/\Rw [tI,tI] es/\Rw [tI] rs):aw 102 [.agg [.s 1 cs,.s 1 us,.s 2 es,.i c,.s 1 rs]] [.k (ccB cs us es c rs)]:=by
 refine cb Ka0.B Tryz.func102 ?_
 intro O r F hO hr hF;cbv
 repeat' first|apply AT|(apply bi<;>intro hb<;>cbv)
 all_goals(subst hO hr hF;(try simp only[nc]at*);(try simp only[ah,SS,sa,az]at*))
 all_goals first
  | (show(_:List DV)=_
     first
      |exact ai (Ob (by assumption)).symm
      |exact ai (Oc (by assumption))
      |done)
  |exact hp
  |(show aV _ _=true;kernel_rfl)
  |done
theorem gy {cs us es:aa}{c:Int}{rs:aa}{p:Int}(hp:Rw [tI,tI] es):aw 328 [.ptr [.s 1 cs,.s 1 us,.s 2 es,.i c,.s 1 rs],.j p] [.j (peM es p)]:=by
 refine cb Ka0.B Tryz.func328 ?_
 intro O r F hO hr hF;cbv
 repeat' first|apply AT|(apply bi<;>intro hb<;>cbv)
 all_goals(subst hO hr hF;(try simp only[nc]at*);(try simp only[ah,SS,sa,az]at*))
 all_goals first|(show(_:List DV)=_;exact rfl)|exact hp|(show aV _ _=true;kernel_rfl)|done
namespace Ka1
structure aQ where
 pagesOn:aa->Int->aa
abbrev F0 :aQ:=⟨pagesOn⟩
def ct (F:aQ):CT:=fun f ds=>match f,ds with
 |312,[.agg [.s 2 es],.one (.v (.int .i64 f))]=>some (fun _=>Rw [tI,tI] es/\es.length<=1099511627776,[.one (.s 1 (F.pagesOn es f))])
 |368,[.agg [.s 2 es],.one (.v (.int .i64 f))]=>some (fun _=>Rw [tI,tI] es/\es.length<=1099511627776,[.one (.s 1 (F.pagesOn es f))])
 |_,_=>none
theorem aj :aR (ct F0):=by
 intro f ds pre res h hp;unfold ct at h;split at h<;>cases h
 exact gg hp;exact gx hp
abbrev B :cy:=tb aj
end Ka1
theorem te {cs us es:aa}{c:Int}{rs:aa}{f:Int}(hp:Rw [.sl [tI]] cs/\Rw [tB] us/\Rw [tI,tI] es/\es.length<=1099511627776/\0<=f/\f<cs.length/\us.length=cs.length):j7 343 [.mp [.own (.s 1 cs),.own (.s 1 us),.own (.s 2 es),.own (.i c),.own (.s 1 rs)],.j f] [[.own (.s 1 (dfC cs es f)),.own (.s 1 (dfU us es f)),.own (.s 2 es),.own (.i c),.own (.s 1 rs)]] []:=by
 obtain⟨wc,wu,we,el,f0,f1,ul⟩:=hp;refine pb Ka1.B Tryz.func343 ?_
 exact Rb
theorem t9 {cs us es:aa}{c:Int}{rs:aa}{f:Int}(hp:Rw [.sl [tI]] cs/\Rw [tB] us/\Rw [tI,tI] es/\es.length<=1099511627776/\0<=f/\f<cs.length/\us.length=cs.length):j7 398 [.mp [.own (.s 1 cs),.own (.s 1 us),.own (.s 2 es),.own (.i c),.own (.s 1 rs)],.j f] [[.own (.s 1 (dfC cs es f)),.own (.s 1 (dfU us es f)),.own (.s 2 es),.own (.i c),.own (.s 1 rs)]] []:=by
 obtain⟨wc,wu,we,el,f0,f1,ul⟩:=hp;refine pb Ka1.B Tryz.func398 ?_
 exact Rb
end Go.V