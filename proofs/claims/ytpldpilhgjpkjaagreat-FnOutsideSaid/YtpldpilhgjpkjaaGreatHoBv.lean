/- Contracts. -/
import Derived.Test.YtpldpilhgjpkjaaGreatM4
set_option linter.all false
open Go
open And renaming intro->Zb
open IntKind renaming i64->Za
open True renaming intro->Zd
namespace Go.V
open Go Go.Proofs
set_option maxRecDepth 1000000
set_option maxHeartbeats 8000000
abbrev Jb4:dB:=eg (fun F f=>match f with|150=>cQ F|149=>gR F|33=>ai F|_=>fun _=>none) (by
 intro f;dsimp only;split;exact jF;exact ni;exact aP;exact dI)
def lV:EC:=fun F=>fun
 |[.agg [.s 1 cs,.s 1 us,.s 2 es],.one (.v (.int Za a)),.one (.v (.int Za v))]=>some (fun _=>Rw [.sl [tI]] cs/\Rw [tB] us/\Rw [tI,tI] es/\bj cs<=1099511627776/\bj us<=1099511627776/\bj es<=1099511627776/\Gi a,[.agg [.s 1 (F.stC cs us es a v),.s 1 us,.s 2 es],.j (F.stK cs us es a v)])
 |_=>none
theorem yz:ec 46 lV:=by
 intro _ _ _ h hp;dsimp only[lV,F0]at h;split at h<;>cases h
 rename_i cs us es a v;obtain⟨hc,hu,he,hn,hm,hk,ha⟩:=hp;refine cb Jb4 Tryz.func46 ?_
 intro O r F hO hr hF;cbv
 repeat' first|apply Zb|(apply b8<;>intro hb<;>cbv)
 all_goals(subst hO hr hF;(try simp only[nc]at*);(try simp only[am,SS,sa,az]at*);(try simp only[nU]at*);(try(have hs:=M5 (cs:=cs) (us:=us) (es:=es) (a:=a) (by assumption);have ha0:=(EZ (cs:=cs) (us:=us) (es:=es) (a:=a) (by assumption)).2));(try simp only[wg (n:=16) ha0]at*))
 all_goals first|(show aw _ _=true;kernel_rfl)|exact⟨hc,hu,he,hn,hm,hk⟩|exact⟨hc,hu,he,ha⟩|exact E1 (aa2 (by assumption)).2.symm rfl rfl (aa2 (by assumption)).1.symm|exact E1 (aa3 (by assumption)).2.symm rfl rfl (aa3 (by assumption)).1.symm|exact E1 (aa4 (by assumption) (by assumption) (by assumption)).2.symm rfl rfl (aa4 (by assumption) (by assumption) (by assumption)).1.symm|exact E1 ((aea hc hs.1 hs.2.1 (by omega) (by omega)).trans (aa1 (by assumption) (by assumption) (by assumption)).2.symm) rfl rfl (aa1 (by assumption) (by assumption) (by assumption)).1.symm|exact RU hc hs.1 hs.2.1 (by omega) (by omega)|exact DT hc hs.1 hs.2.1|exact⟨by omega,by omega,vE hc hs.1 hs.2.1⟩|exact⟨trivial,trivial⟩|trivial|omega|done
abbrev Jb6:dB:=eg (fun F f=>match f with|36=>dD F|44=>gj F|46=>lV F|90=>dD F|91=>cV F|_=>fun _=>none) (by
 intro f;dsimp only;split;exact mI;exact mD;exact yz;exact vh;exact kO;exact dI)
def iy:EC:=fun F=>fun
 |[.agg hl_,.one (.v (.int Za a)),.one (.v (.int Za v))]=>hL hl_ fun a0 a1 a2 a3 a4 a5 a6 a7 a8 a9 aA aB aC aD aE aF aG aH aI aJ aK aL aM aN=>(fun _=>Al a0 a1 a2 a4 a5 a6 a7 a8 a9 aA aB aD aL/\Gi a,[.agg (QG (F.hsC (F.hpI a0 a1 a2 a3 a4 a5 a6 a7 a8 a9 aA aB aC aD aE aF aG aH aI aJ aK aL aM aN) a0 a1 a2 a8 a v) a1 a2 a3 a4 a5 a6 a7 a8 a9 aA aB aC aD aE aF aG aH aI aJ aK aL aM aN),.j (F.hsK (F.hpI a0 a1 a2 a3 a4 a5 a6 a7 a8 a9 aA aB aC aD aE aF aG aH aI aJ aK aL aM aN) a0 a1 a2 a8 a v)])
 |_=>none
theorem rh:ec 14 iy:=by
 intro _ _ _ h hp;dsimp only[iy,F0,hL]at h;split at h;rotate_left;cases h;split at h<;>cases h
 rename_i a v _ a0 a1 a2 a3 a4 a5 a6 a7 a8 a9 aA aB aC aD aE aF aG aH aI aJ aK aL aM aN;obtain⟨hp,hA⟩:=hp;have c0:=hp.c0;have c1:=hp.c1;have c2:=hp.c2;refine cb Jb6 Tryz.func14 ?_
 intro O r F hO hr hF;cbv
 repeat' first|apply Zb|(apply b8<;>intro hb<;>cbv)
 all_goals(subst hO hr hF;(try simp only[nc]at*);(try simp only[am,SS,sa,az]at*))
 all_goals first
  | (show(_:List DV)=_
     first
      |(have q:=SB (k:=hpI a0 a1 a2 a3 a4 a5 a6 a7 a8 a9 aA aB aC aD aE aF aG aH aI aJ aK aL aM aN) (cs:=a0) (us:=a1) (es:=a2) (os:=a8) (a:=a) (v:=v) (by omega);first|(first|(rw[q.1,q.2];done)|(rw[q.1,q.2];exact rfl))|(rw[q.1,q.2];exact rfl))
      |(have q:=acO (k:=hpI a0 a1 a2 a3 a4 a5 a6 a7 a8 a9 aA aB aC aD aE aF aG aH aI aJ aK aL aM aN) (cs:=a0) (us:=a1) (es:=a2) (os:=a8) (a:=a) (v:=v) (by omega) (by assumption);first|(first|(rw[q.1,q.2];done)|(rw[q.1,q.2];exact rfl))|(rw[q.1,q.2];exact rfl))
      |(have q:=acP (k:=hpI a0 a1 a2 a3 a4 a5 a6 a7 a8 a9 aA aB aC aD aE aF aG aH aI aJ aK aL aM aN) (cs:=a0) (us:=a1) (es:=a2) (os:=a8) (a:=a) (v:=v) (by omega) (by assumption);first|(first|(rw[q.1,q.2];done)|(rw[q.1,q.2];exact rfl))|(rw[q.1,q.2];exact rfl))
      |(have q:=acM (k:=hpI a0 a1 a2 a3 a4 a5 a6 a7 a8 a9 aA aB aC aD aE aF aG aH aI aJ aK aL aM aN) (cs:=a0) (us:=a1) (es:=a2) (os:=a8) (a:=a) (v:=v) (by omega) (by omega) (by omega);first|(first|(rw[q.1,q.2];done)|(rw[q.1,q.2];exact rfl))|(rw[q.1,q.2];exact rfl))
      |done)
  |exact hp
  |exact hp.hp
  |exact⟨hp.hp,hA⟩
  |exact⟨hp.r0,hp.r1,hp.r2,by omega,by omega,by omega,hA⟩
  |(show aw _ _=true;kernel_rfl)
  |exact⟨Zd,Zd⟩
  |exact Zd
  |done
end Go.V