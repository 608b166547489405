/- Contracts. -/
import Derived.Test.YtcodmgmliopheaaGreatXHoRt
set_option linter.all false
open Go
open And renaming intro->By
open True renaming intro->ac2
namespace Go.V
open Go Go.Proofs
set_option maxRecDepth 1000000
set_option maxHeartbeats 8000000
abbrev Zs1 :cW:={
 Φ:=qj
 F0:=F0
 ct:=fun F f=>match f with|53=>cE F|95=>eU F|100=>fq F|227=>fq F|_=>fun _=>none
 hc:=(by
  intro f;dsimp only;split;exact ko;exact qB;exact y8;exact zQ;exact cX)
 pt:=fun F f=>match f with|101=>some (fw F)|228=>some (fw F)|_=>none
 hp:=(by
  intro f mk h;dsimp only at h;split at h<;>cases h
  exact zg;exact tV)}
def iX :EP:=fun F=>fun
 |[.mp hl_,.one (.v (.int .i64 t))]=>hM hl_ fun a0 a1 a2 a3 a4 a5 a6 a7 a8 a9 aA aB aC aD aE aF aG aH aI aJ aK aL aM aN=>(fun _=>rT a0 a1 a2 a4 a5 a6 a7 a8 a9 aA aB aD aL/\hpI a0 a1 a2 a3 a4 a5 a6 a7 a8 a9 aA aB aC aD aE aF aG aH aI aJ aK aL aM aN=true/\a3≠100000/\inR t 0 (a9.length-1)=true/\ak a9<=1000000000/\ak aB<=1000000000,[(Wu (F.raC aI aJ aK a0 a1 a2 a5 a6 a9 t (F.coT aA aB t)) (F.raU aI aJ aK a0 a1 a2 a5 a6 a9 t (F.coT aA aB t)) (F.raE aI aJ aK a0 a1 a2 a5 a6 a9 t (F.coT aA aB t)) a3 a4 (F.raF aI aJ aK a0 a1 a2 a5 a6 a9 t (F.coT aA aB t)) (F.raS aI aJ aK a0 a1 a2 a5 a6 a9 t (F.coT aA aB t)) a7 a8 (F.raD aI aJ aK a0 a1 a2 a5 a6 a9 t (F.coT aA aB t)) aA (F.coX aA aB t) aC aD aE aF aG aH aI aJ aK aL aM aN)],[.j (F.lenI (F.coT aA aB t))])
 |_=>none
theorem tT :ep 99 iX:=by
 intro _ _ _ _ h hp;dsimp only[iX,F0,hM]at h;split at h;rotate_left;cases h;split at h<;>cases h
 rename_i t _ a0 a1 a2 a3 a4 a5 a6 a7 a8 a9 aA aB aC aD aE aF aG aH aI aJ aK aL aM aN;obtain⟨hp,hk,hn,hi,h9,h11⟩:=hp;have TT:=HI hp h9 hk hi;have wr:=(Ei (b:=aA) (t:=t) hp.r11 (by omega)).1;have lm:=(Ei (b:=aA) (t:=t) hp.r11 (by omega)).2;refine pb Zs1 Tryz.func99 ?_
 intro O r os F hO hr hos hF;cbv
 repeat' first|apply By|(apply bD<;>intro hb<;>cbv)|(refine⟨[0,1,6,7],[0,14],Int×aa×aa×aa×aa×aa×aa,fun s_=>match s_ with|(i,c,u,e,f,s,x)=>[.reg 7 (.j i),.leaf 0 0 ⟨0,0,none,.own (.s 1 c)⟩,.leaf 0 1 ⟨0,0,none,.own (.s 1 u)⟩,.leaf 0 2 ⟨0,0,none,.own (.s 2 e)⟩,.leaf 0 5 ⟨0,0,none,.own (.s 2 f)⟩,.leaf 0 6 ⟨0,0,none,.own (.s 3 s)⟩,.leaf 0 9 ⟨0,0,none,.own (.s 1 x)⟩],fun s_=>match s_ with|(i,c,u,e,f,s,x)=>0<=i/\i<=((coT aA aB t).length:Int)/\OJ aI aJ aK t (coT aA aB t) ⟨⟨a0,a1,a2,a5,a6⟩,a9⟩ i c u e f s x,fun s_=>match s_ with|(i,c,u,e,f,s,x)=>((coT aA aB t).length-i).toNat,⟨(0,a0,a1,a2,a5,a6,a9),?_,?_⟩,?_⟩;rotate_left;(focus (cbv;done));intro s_ hi;obtain⟨i,c,u,e,f,s,x⟩:=s_;replace hi:0<=i/\i<=((coT aA aB t).length:Int)/\OJ aI aJ aK t (coT aA aB t) ⟨⟨a0,a1,a2,a5,a6⟩,a9⟩ i c u e f s x:=hi;obtain⟨i0,i1,i2⟩:=hi;cbv)|(refine ab (O.ar .add .i64 i 1,F.rcC aI aJ aK c u e f s x t (O.pi (.s 1 (F.coT (O.sub aA 0 (O.ln aA)) (O.sub aB 0 (O.ln aB)) t)) [(O.ad 0 i,0)]),F.rcU aI aJ aK c u e f s x t (O.pi (.s 1 (F.coT (O.sub aA 0 (O.ln aA)) (O.sub aB 0 (O.ln aB)) t)) [(O.ad 0 i,0)]),F.rcE aI aJ aK c u e f s x t (O.pi (.s 1 (F.coT (O.sub aA 0 (O.ln aA)) (O.sub aB 0 (O.ln aB)) t)) [(O.ad 0 i,0)]),F.rcF aI aJ aK c u e f s x t (O.pi (.s 1 (F.coT (O.sub aA 0 (O.ln aA)) (O.sub aB 0 (O.ln aB)) t)) [(O.ad 0 i,0)]),F.rcS aI aJ aK c u e f s x t (O.pi (.s 1 (F.coT (O.sub aA 0 (O.ln aA)) (O.sub aB 0 (O.ln aB)) t)) [(O.ad 0 i,0)]),F.rcD s x t (O.pi (.s 1 (F.coT (O.sub aA 0 (O.ln aA)) (O.sub aB 0 (O.ln aB)) t)) [(O.ad 0 i,0)])) ?_ ?_ ?_;focus (cbv;done))
 all_goals((try subst hos);subst hO hr hF;(try simp only[nc]at*);(try simp only[ah,SS,sa,az]at*);(try rw[di (by omega) (by omega)]);(try simp only[ng (l:=coT aA aB t) (sz:=1) (j:=0) (i:=i) i0]at*);(try have ht:=Ej hp hk h11 hn TT i2 i0 (by omega));(try have E:=J8 i2 (by omega)))
 all_goals first
  | (show(_:List DV)=_
     first
      |exact rfl
      |done)
  | (show(_:List H)=_
     first
      |(rw[<-E.1, <-E.2.1, <-E.2.2.1, <-E.2.2.2.1, <-E.2.2.2.2.1, <-E.2.2.2.2.2];exact rfl)
      |done)
  |omega
  |exact gp
  |exact⟨hp.r10,hp.r11,hp.c10,hp.c11⟩
  |exact JF wr i0 (by omega)
  |exact Ej hp hk h11 hn TT i2 i0 (by omega)
  |exact SN
  |exact NR i2 i0
  |(show aP _ _=true;kernel_rfl)
  |exact⟨ac2,ac2⟩
  |exact ac2
  |done
def dy :EC:=fun F=>fun
 |[.agg hl_,.one (.v (.int .i64 t))]=>hL hl_ fun a0 a1 a2 a3 a4 a5 a6 a7 a8 a9 aA aB aC aD aE aF aG aH aI aJ aK aL aM aN=>(fun _=>rT a0 a1 a2 a4 a5 a6 a7 a8 a9 aA aB aD aL/\ak a9<=1000000000/\ak aB<=1000000000,[.agg (UF (F.ifR (F.t0B (F.hpI a0 a1 a2 a3 a4 a5 a6 a7 a8 a9 aA aB aC aD aE aF aG aH aI aJ aK aL aM aN) a3 t a9) (F.raC aI aJ aK a0 a1 a2 a5 a6 a9 t (F.coT aA aB t)) a0) (F.ifR (F.t0B (F.hpI a0 a1 a2 a3 a4 a5 a6 a7 a8 a9 aA aB aC aD aE aF aG aH aI aJ aK aL aM aN) a3 t a9) (F.raU aI aJ aK a0 a1 a2 a5 a6 a9 t (F.coT aA aB t)) a1) (F.ifR (F.t0B (F.hpI a0 a1 a2 a3 a4 a5 a6 a7 a8 a9 aA aB aC aD aE aF aG aH aI aJ aK aL aM aN) a3 t a9) (F.raE aI aJ aK a0 a1 a2 a5 a6 a9 t (F.coT aA aB t)) a2) a3 a4 (F.ifR (F.t0B (F.hpI a0 a1 a2 a3 a4 a5 a6 a7 a8 a9 aA aB aC aD aE aF aG aH aI aJ aK aL aM aN) a3 t a9) (F.raF aI aJ aK a0 a1 a2 a5 a6 a9 t (F.coT aA aB t)) a5) (F.ifR (F.t0B (F.hpI a0 a1 a2 a3 a4 a5 a6 a7 a8 a9 aA aB aC aD aE aF aG aH aI aJ aK aL aM aN) a3 t a9) (F.raS aI aJ aK a0 a1 a2 a5 a6 a9 t (F.coT aA aB t)) a6) a7 a8 (F.ifR (F.t0B (F.hpI a0 a1 a2 a3 a4 a5 a6 a7 a8 a9 aA aB aC aD aE aF aG aH aI aJ aK aL aM aN) a3 t a9) (F.raD aI aJ aK a0 a1 a2 a5 a6 a9 t (F.coT aA aB t)) a9) aA (F.ifR (F.t0B (F.hpI a0 a1 a2 a3 a4 a5 a6 a7 a8 a9 aA aB aC aD aE aF aG aH aI aJ aK aL aM aN) a3 t a9) (F.coX aA aB t) aB) aC aD aE aF aG aH aI aJ aK aL aM aN),.j (F.ifN (F.t0B (F.hpI a0 a1 a2 a3 a4 a5 a6 a7 a8 a9 aA aB aC aD aE aF aG aH aI aJ aK aL aM aN) a3 t a9) (F.lenI (F.coT aA aB t)) 0)])
 |_=>none
theorem sv :ec 27 dy:=by
 intro _ _ _ h hp;dsimp only[dy,F0,hL]at h;split at h;rotate_left;cases h;split at h<;>cases h
 rename_i t _ a0 a1 a2 a3 a4 a5 a6 a7 a8 a9 aA aB aC aD aE aF aG aH aI aJ aK aL aM aN;obtain⟨hp,h9,h11⟩:=hp;refine cb Zs1 Tryz.func27 ?_
 intro O r F hO hr hF;cbv
 repeat' first|apply By|(apply bD<;>intro hb<;>cbv)|(refine⟨[1,4,6,8,27,28,29],[4,6,22],Int×aa×aa×aa×aa×aa×aa,fun s_=>match s_ with|(i,c,u,e,f,s,x)=>[.reg 29 (.j i),.leaf 6 0 ⟨0,0,none,.own (.s 1 c)⟩,.leaf 6 1 ⟨0,0,none,.own (.s 1 u)⟩,.leaf 6 2 ⟨0,0,none,.own (.s 2 e)⟩,.leaf 6 5 ⟨0,0,none,.own (.s 2 f)⟩,.leaf 6 6 ⟨0,0,none,.own (.s 3 s)⟩,.leaf 6 9 ⟨0,0,none,.own (.s 1 x)⟩],fun s_=>match s_ with|(i,c,u,e,f,s,x)=>0<=i/\i<=((coT aA aB t).length:Int)/\OJ aI aJ aK t (coT aA aB t) ⟨⟨a0,a1,a2,a5,a6⟩,a9⟩ i c u e f s x,fun s_=>match s_ with|(i,c,u,e,f,s,x)=>((coT aA aB t).length-i).toNat,⟨(0,a0,a1,a2,a5,a6,a9),?_,?_⟩,?_⟩;rotate_left;(focus (cbv;done));intro s_ hi;obtain⟨i,c,u,e,f,s,x⟩:=s_;replace hi:0<=i/\i<=((coT aA aB t).length:Int)/\OJ aI aJ aK t (coT aA aB t) ⟨⟨a0,a1,a2,a5,a6⟩,a9⟩ i c u e f s x:=hi;obtain⟨i0,i1,i2⟩:=hi;cbv)|(refine ab (O.ar .add .i64 i 1,F.rcC aI aJ aK c u e f s x t (O.pi (.s 1 (F.coT aA aB t)) [(O.ad 0 i,0)]),F.rcU aI aJ aK c u e f s x t (O.pi (.s 1 (F.coT aA aB t)) [(O.ad 0 i,0)]),F.rcE aI aJ aK c u e f s x t (O.pi (.s 1 (F.coT aA aB t)) [(O.ad 0 i,0)]),F.rcF aI aJ aK c u e f s x t (O.pi (.s 1 (F.coT aA aB t)) [(O.ad 0 i,0)]),F.rcS aI aJ aK c u e f s x t (O.pi (.s 1 (F.coT aA aB t)) [(O.ad 0 i,0)]),F.rcD s x t (O.pi (.s 1 (F.coT aA aB t)) [(O.ad 0 i,0)])) ?_ ?_ ?_;focus (cbv;done))
 all_goals(subst hO hr hF;(try simp only[nc]at*);(try simp only[ah,SS,sa,az]at*);(try have gt:t0B (hpI a0 a1 a2 a3 a4 a5 a6 a7 a8 a9 aA aB aC aD aE aF aG aH aI aJ aK aL aM aN) a3 t a9=true:=(by assumption));(try have gt:=Dw gt);(try have hk:=gt.1);(try have hn:=gt.2.1);(try have TT:=HI hp h9 hk gt.2.2);(try have wr:=(Ei (b:=aA) (t:=t) hp.r11 (by omega)).1);(try have lm:=(Ei (b:=aA) (t:=t) hp.r11 (by omega)).2);(try rw[di (by omega) (by omega)]);(try simp only[ng (l:=coT aA aB t) (sz:=1) (j:=0) (i:=i) i0]at*);(try have ht:=Ej hp hk h11 hn TT i2 i0 (by omega));(try have E:=J8 i2 (by omega)))
 all_goals first
  | (show(_:List DV)=_
     first
      |(rw[show t0B (hpI a0 a1 a2 a3 a4 a5 a6 a7 a8 a9 aA aB aC aD aE aF aG aH aI aJ aK aL aM aN) a3 t a9=false by assumption];exact rfl)
      |(rw[show t0B (hpI a0 a1 a2 a3 a4 a5 a6 a7 a8 a9 aA aB aC aD aE aF aG aH aI aJ aK aL aM aN) a3 t a9=true by assumption,E.1,E.2.1,E.2.2.1,E.2.2.2.1,E.2.2.2.2.1,E.2.2.2.2.2];exact rfl)
      |done)
  | (show(_:List H)=_
     first
      |done)
  |omega
  |exact gp
  |exact hp
  |exact hp.hp
  |exact⟨hp.r10,hp.r11,hp.c10,hp.c11⟩
  |exact JF wr i0 (by omega)
  |exact Ej hp hk h11 hn TT i2 i0 (by omega)
  |exact SN
  |exact NR i2 i0
  |(show aP _ _=true;kernel_rfl)
  |exact⟨ac2,ac2⟩
  |exact ac2
  |done
abbrev Zs2 :cW:={
 Φ:=qj
 F0:=F0
 ct:=fun F f=>match f with|88=>eU F|41=>cE F|_=>fun _=>none
 hc:=(by
  intro f;dsimp only;split;exact tU;exact lY;exact cX)
 pt:=fun F f=>match f with|99=>some (iX F)|_=>none
 hp:=(by
  intro f mk h;dsimp only at h;split at h<;>cases h
  exact tT)}
theorem sF :ec 26 dy:=by
 intro _ _ _ h hp;dsimp only[dy,F0,hL]at h;split at h;rotate_left;cases h;split at h<;>cases h
 rename_i t _ a0 a1 a2 a3 a4 a5 a6 a7 a8 a9 aA aB aC aD aE aF aG aH aI aJ aK aL aM aN;obtain⟨hp,h9,h11⟩:=hp;refine cb Zs2 Tryz.func26 ?_
 intro O r F hO hr hF;cbv
 repeat' first|apply By|(apply bD<;>intro hb<;>cbv)
 all_goals(subst hO hr hF;(try simp only[nc]at*);(try simp only[ah,SS,sa,az]at*);(try have gt:t0B (hpI a0 a1 a2 a3 a4 a5 a6 a7 a8 a9 aA aB aC aD aE aF aG aH aI aJ aK aL aM aN) a3 t a9=true:=(by assumption));(try have gh:=Dw gt))
 all_goals first
  | (show(_:List DV)=_
     first
      |(rw[show t0B (hpI a0 a1 a2 a3 a4 a5 a6 a7 a8 a9 aA aB aC aD aE aF aG aH aI aJ aK aL aM aN) a3 t a9=false by assumption];exact rfl)
      |(rw[show t0B (hpI a0 a1 a2 a3 a4 a5 a6 a7 a8 a9 aA aB aC aD aE aF aG aH aI aJ aK aL aM aN) a3 t a9=true by assumption];exact rfl)
      |done)
  | (show(_:List H)=_
     first
      |done)
  |omega
  |exact gp
  |exact hp
  |exact hp.hp
  |exact⟨hp,gh.1,gh.2.1,gh.2.2,h9,h11⟩
  |(have h:=Rf (b:=t0B (hpI a0 a1 a2 a3 a4 a5 a6 a7 a8 a9 aA aB aC aD aE aF aG aH aI aJ aK aL aM aN) a3 t a9) hp h9 h11 rfl;rw[show t0B (hpI a0 a1 a2 a3 a4 a5 a6 a7 a8 a9 aA aB aC aD aE aF aG aH aI aJ aK aL aM aN) a3 t a9=true by assumption]at h;exact h)
  |(show aP _ _=true;kernel_rfl)
  |exact⟨ac2,ac2⟩
  |exact ac2
  |done
end Go.V