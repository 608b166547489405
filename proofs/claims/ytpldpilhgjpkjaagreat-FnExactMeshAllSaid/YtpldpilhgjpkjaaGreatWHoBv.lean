/- Contracts. -/
import Derived.Test.YtpldpilhgjpkjaaGreatWM4
set_option linter.all false
open Go
open IntKind renaming i64->Za
namespace Go.V
open Go Go.Proofs
set_option maxRecDepth 1000000
set_option maxHeartbeats 8000000
abbrev Jb4:cT:=dG (fun F f=>match f with|150=>b9 F|149=>iL F|33=>ai F|_=>fun _=>none) (by
 intro f;dsimp only;split;exact hY;exact qX;exact aU;exact cX)
def gL:EC:=fun F=>fun
 |[.agg [.s 1 cs,.s 1 us,.s 2 es],.one (.v (.int Za a)),.one (.v (.int Za v))]=>some (fun _=>Rw [.sl [tI]] cs/\Rw [tB] us/\Rw [tI,tI] es/\au cs<=1099511627776/\au us<=1099511627776/\au es<=1099511627776/\I64 a,[.agg [.s 1 (F.stC cs us es a v),.s 1 us,.s 2 es],.j (F.stK cs us es a v)])
 |_=>none
def Ev:ec 46 gL:=by
 intro _ _ _ h hp;dsimp only[gL,F0]at h;split at h<;>cases h
 rename_i cs us es a v;obtain⟨hc,hu,he,hn,hm,hk,ha⟩:=hp;refine cb Jb4 Tryz.func46 ?_
 intro O r F hO hr hF;cbv
 repeat' first|apply And.intro|(apply bC<;>intro hb<;>cbv)
 all_goals(subst hO hr hF;(try simp only[nc]at*);(try simp only[ah,SS,sa,az]at*);(try simp only[BB]at*);(try(have hs:=OA (cs:=cs) (us:=us) (es:=es) (a:=a) Ud;have ha0:=(Hg (cs:=cs) (us:=us) (es:=es) (a:=a) Ud).2));(try simp only[ve (n:=16) ha0]at*))
 all_goals first|(show ay _ _=true;kernel_rfl)|exact⟨hc,hu,he,hn,hm,hk⟩|exact⟨hc,hu,he,ha⟩|exact vi (Hj Ud).2.symm rfl rfl (Hj Ud).1.symm|exact vi (Q2 Ud).2.symm rfl rfl (Q2 Ud).1.symm|exact vi (Q3 Ud Ud Ud).2.symm rfl rfl (Q3 Ud Ud Ud).1.symm|exact vi ((Rh hc hs.1 hs.2.1 Uc Uc).trans (Q1 Ud Ud Ud).2.symm) rfl rfl (Q1 Ud Ud Ud).1.symm|exact JK hc hs.1 hs.2.1 Uc Uc|exact uI hc hs.1 hs.2.1|exact⟨Uc,Uc,rn hc hs.1 hs.2.1⟩|exact⟨trivial,trivial⟩|trivial|omega|done
end Go.V