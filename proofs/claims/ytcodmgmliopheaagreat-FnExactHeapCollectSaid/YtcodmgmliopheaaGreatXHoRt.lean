/- Contracts. -/
import Derived.Test.YtcodmgmliopheaaGreatXHoWt
import Derived.Test.YtcodmgmliopheaaGreatXHoMt
set_option linter.all false
open Go
open And renaming intro->By
namespace Go.V
open Go Go.Proofs
set_option maxRecDepth 1000000
set_option maxHeartbeats 8000000
abbrev Zr1 :cW:=eF (fun F f=>match f with|221=>dK F|161=>cn F|172=>cL F|327=>dK F|130=>cn F|141=>cL F|_=>fun _=>none) (by
 intro f;dsimp only;split;exact qC;exact js;exact lN;exact tR;exact lX;exact lT;exact cX)
def eI :EC:=fun F=>fun
 |[.agg [.s 1 ls],.one (.v (.int .i64 k)),.one (.v (.int .i64 a))]=>some (fun _=>Rw [.sl [tI]] ls/\ak ls<=1073741824/\(-9223372036854775808<=a/\a<=9223372036854775807),[.agg [.s 1 (F.cpLq ls k a)],.k (F.cpBq ls k a)])
 |_=>none
theorem xc :ec 229 eI:=by
 intro _ _ _ h hp;dsimp only[eI,F0]at h;split at h<;>cases h
 rename_i ls k a;obtain⟨hw,hc,ha⟩:=hp;have N:=GB hw (by omega);have ln:=av (es:=ls);refine cb Zr1 Tryz.func229 ?_
 exact aax
theorem x7 :ec 338 eI:=by
 intro _ _ _ h hp;dsimp only[eI,F0]at h;split at h<;>cases h
 rename_i ls k a;obtain⟨hw,hc,ha⟩:=hp;have N:=GB hw (by omega);have ln:=av (es:=ls);refine cb Zr1 Tryz.func338 ?_
 exact aax
abbrev Zr2 :cW:=eF (fun F f=>match f with|165=>eg F|162=>dm F|170=>cD F|222=>dT F|147=>eg F|131=>dm F|139=>cD F|_=>fun _=>none) (by
 intro f;dsimp only;split;exact vj;exact pR;exact jR;exact fP;exact Eb;exact qG;exact jS;exact cX)
def fq :EC:=fun F=>fun
 |[.agg [.s 1 b,.s 1 x],.one (.v (.int .i64 t))]=>some (fun _=>Rw [.sl [tI,tI]] b/\Rw [.sl [tI]] x/\ak b<=1073741824/\ak x<=1073741824,[.agg [.s 1 b,.s 1 (F.coX b x t)],.one (.s 1 (F.coT b x t))])
 |_=>none
theorem y8 :ec 100 fq:=by
 intro _ _ _ h hp;dsimp only[fq,F0]at h;split at h<;>cases h
 rename_i b x t;obtain⟨wb,wx,kb,cx⟩:=hp;have N:=Ia wb wx kb cx;have lb:=av (es:=b);have lx:=av (es:=x);refine cb Zr2 Tryz.func100 ?_
 exact aaz
theorem zQ :ec 227 fq:=by
 intro _ _ _ h hp;dsimp only[fq,F0]at h;split at h<;>cases h
 rename_i b x t;obtain⟨wb,wx,kb,cx⟩:=hp;have N:=Ia wb wx kb cx;have lb:=av (es:=b);have lx:=av (es:=x);refine cb Zr2 Tryz.func227 ?_
 exact aaz
abbrev Zr3 :cW:={
 Φ:=qj
 F0:=F0
 ct:=fun F f=>match f with|216=>fv F|229=>eI F|146=>dF F|338=>eI F|_=>fun _=>none
 hc:=(by
  intro f;dsimp only;split;exact iH;exact xc;exact jT;exact x7;exact cX)
 pt:=fun F f=>match f with|93=>some (bZ F)|214=>some (bZ F)|_=>none
 hp:=(by
  intro f mk h;dsimp only at h;split at h<;>cases h
  exact iI;exact lZ)}
def fw :EP:=fun F=>fun
 |[.mp hl_,.one (.v (.int .i64 t)),.one (.v (.int .i64 ad))]=>hM hl_ fun a0 a1 a2 a3 a4 a5 a6 a7 a8 a9 aA aB aC aD aE aF aG aH aI aJ aK aL aM aN=>(fun _=>rT a0 a1 a2 a4 a5 a6 a7 a8 a9 aA aB aD aL/\kerOk a0 a1 a2 a3 a4=true/\a3≠100000/\a5.length<=65/\ta a6/\(∃ i,qo a6 ad i)/\0<=t/\t<a9.length,[(Wu (F.rcC aI aJ aK a0 a1 a2 a5 a6 a9 t ad) (F.rcU aI aJ aK a0 a1 a2 a5 a6 a9 t ad) (F.rcE aI aJ aK a0 a1 a2 a5 a6 a9 t ad) a3 a4 (F.rcF aI aJ aK a0 a1 a2 a5 a6 a9 t ad) (F.rcS aI aJ aK a0 a1 a2 a5 a6 a9 t ad) a7 a8 (F.rcD a6 a9 t ad) aA aB aC aD aE aF aG aH aI aJ aK aL aM aN)],[])
 |_=>none
theorem zg :ep 101 fw:=by
 intro _ _ _ _ h hp;dsimp only[fw,F0,hM]at h;split at h;rotate_left;cases h;split at h<;>cases h
 rename_i t ad _ a0 a1 a2 a3 a4 a5 a6 a7 a8 a9 aA aB aC aD aE aF aG aH aI aJ aK aL aM aN;obtain⟨hp,hk,hn,h5,g,⟨ix,v⟩,t0,t1⟩:=hp;have l6:=av (es:=a6);have c6:=hp.c6;have c9:=hp.c9;have dn:=EQ (L:=a7) g v;have vi:=A0 g v;have fs:=jn g v;have vl:=v.l;have x0:(0:Int)<=ix:=(by omega);have x1:(ix:Int)<a6.length:=(by omega);have wc:=jQ hp.r9 t0 t1;have gl:=jK (es:=a9) (i:=t) (j:=0);refine pb Zr3 Tryz.func101 ?_
 intro O r os F hO hr hos hF;cbv
 repeat' first|apply By|(apply bD<;>intro hb<;>cbv)
 all_goals((try subst hos);subst hO hr hF;(try simp only[nc]at*);(try simp only[ah,SS,sa,az]at*);(try simp only[lp]at*);(try simp only[dn.1]at*);(try simp only[dn.2.1,dn.2.2]at*))
 all_goals exact aay
theorem tV :ep 228 fw:=by
 intro _ _ _ _ h hp;dsimp only[fw,F0,hM]at h;split at h;rotate_left;cases h;split at h<;>cases h
 rename_i t ad _ a0 a1 a2 a3 a4 a5 a6 a7 a8 a9 aA aB aC aD aE aF aG aH aI aJ aK aL aM aN;obtain⟨hp,hk,hn,h5,g,⟨ix,v⟩,t0,t1⟩:=hp;have l6:=av (es:=a6);have c6:=hp.c6;have c9:=hp.c9;have dn:=EQ (L:=a7) g v;have vi:=A0 g v;have fs:=jn g v;have vl:=v.l;have x0:(0:Int)<=ix:=(by omega);have x1:(ix:Int)<a6.length:=(by omega);have wc:=jQ hp.r9 t0 t1;have gl:=jK (es:=a9) (i:=t) (j:=0);have e1:bR .quo .i64 ad 16=ad/16:=Bg (by omega) (by omega) (by omega);refine pb Zr3 Tryz.func228 ?_
 intro O r os F hO hr hos hF;cbv
 repeat' first|apply By|(apply bD<;>intro hb<;>cbv)
 all_goals((try subst hos);subst hO hr hF;(try simp only[nc]at*);(try simp only[ah,SS,sa,az]at*);(try simp only[lp,e1]at*);(try simp only[fs.2.1]at*))
 all_goals exact aay
end Go.V