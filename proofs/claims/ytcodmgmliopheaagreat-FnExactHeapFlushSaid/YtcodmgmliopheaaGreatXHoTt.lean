/- Contracts. -/
import Derived.Test.YtcodmgmliopheaaGreatXHoWt
set_option linter.all false
open Go
open And renaming intro->By
open Int renaming toNat_of_nonneg->IS
open True renaming intro->ac2
namespace Go.V
open Go Go.Proofs
set_option maxRecDepth 1000000
set_option maxHeartbeats 8000000
abbrev Zt0 :cW:=eF (fun F f=>match f with|161=>cn F|221=>dK F|222=>dT F|130=>cn F|327=>dK F|_=>fun _=>none) (by
 intro f;dsimp only;split;exact js;exact qC;exact fP;exact lX;exact tR;exact cX)
def dP :EC:=fun F=>fun
 |[.agg [.s 1 ls],.one (.v (.int .i64 k)),.one (.v (.int .i64 n))]=>some (fun _=>Rw [.sl [tI]] ls/\ak ls<=1073741824,[.agg [.s 1 (F.clK ls k n)],.one (.s 1 (F.clT ls k n))])
 |_=>none
theorem tg :ec 96 dP:=by
 intro _ _ _ h hp;dsimp only[dP,F0]at h;split at h<;>cases h
 rename_i ls k n;obtain⟨hw,hc⟩:=hp;have N:=GB hw (by omega);have ln:=av (es:=ls);refine T9 Zt0 Dx mixed 43 _ [153,31] [.cell 6 153,.tmp 7] [(4,[9])] Tryz.func96 rfl rfl rfl rfl rfl ?_;intro O r F hO hr hF;cbv
 exact zq9
theorem tP :ec 220 dP:=by
 intro _ _ _ h hp;dsimp only[dP,F0]at h;split at h<;>cases h
 rename_i ls k n;obtain⟨hw,hc⟩:=hp;have N:=GB hw (by omega);have ln:=av (es:=ls);refine cb Zt0 Tryz.func220 ?_
 intro O r F hO hr hF;cbv
 all_goals exact zq9
abbrev Zt1 :cW:={
 Φ:=qj
 F0:=F0
 ct:=fun F f=>match f with|53=>cE F|95=>eU F|96=>dP F|220=>dP F|_=>fun _=>none
 hc:=(by
  intro f;dsimp only;split;exact ko;exact qB;exact tg;exact tP;exact cX)
 pt:=fun F f=>match f with|93=>some (bZ F)|214=>some (bZ F)|_=>none
 hp:=(by
  intro f mk h;dsimp only at h;split at h<;>cases h
  exact iI;exact lZ)}
def lh :EP:=fun F=>fun
 |[.mp hl_,.one (.v (.int .i64 t))]=>hM hl_ fun a0 a1 a2 a3 a4 a5 a6 a7 a8 a9 aA aB aC aD aE aF aG aH aI aJ aK aL aM aN=>(fun _=>rT a0 a1 a2 a4 a5 a6 a7 a8 a9 aA aB aD aL/\hpI a0 a1 a2 a3 a4 a5 a6 a7 a8 a9 aA aB aC aD aE aF aG aH aI aJ aK aL aM aN=true/\a3≠100000/\inR t 0 (a9.length-1)=true/\ak a9<=1000000000,[(Wu (F.tkC aI aJ aK a0 a1 a2 a5 a6 (F.fuL a9 t)) (F.tkU aI aJ aK a0 a1 a2 a5 a6 (F.fuL a9 t)) (F.tkE aI aJ aK a0 a1 a2 a5 a6 (F.fuL a9 t)) a3 a4 (F.tkF aI aJ aK a0 a1 a2 a5 a6 (F.fuL a9 t)) (F.tkS aI aJ aK a0 a1 a2 a5 a6 (F.fuL a9 t)) a7 a8 (F.fuD a9 t) aA aB aC aD aE aF aG aH aI aJ aK aL aM aN)],[.j (F.lenI (F.fuL a9 t))])
 |_=>none
theorem yj :ep 94 lh:=by
 intro _ _ _ _ h hp;dsimp only[lh,F0,hM]at h;split at h;rotate_left;cases h;split at h<;>cases h
 rename_i t _ a0 a1 a2 a3 a4 a5 a6 a7 a8 a9 aA aB aC aD aE aF aG aH aI aJ aK aL aM aN;obtain⟨hp,hk,hn,hi,h9⟩:=hp;have TT:=HN hp h9 hk hi;refine pb Zt1 Tryz.func94 ?_
 intro O r os F hO hr hos hF;cbv
 repeat' first|apply By|(apply bD<;>intro hb<;>cbv)|(refine⟨[0,1,5,6],[0],Int×Int×aa×aa×aa×aa×aa×aa,fun s_=>match s_ with|(k,n,c,u,e,f,z,x)=>[.reg 6 (.j k),.reg 5 (.j n),.leaf 0 0 ⟨0,0,none,.own (.s 1 c)⟩,.leaf 0 1 ⟨0,0,none,.own (.s 1 u)⟩,.leaf 0 2 ⟨0,0,none,.own (.s 2 e)⟩,.leaf 0 5 ⟨0,0,none,.own (.s 2 f)⟩,.leaf 0 6 ⟨0,0,none,.own (.s 3 z)⟩,.leaf 0 9 ⟨0,0,none,.own (.s 1 x)⟩],fun s_=>match s_ with|(k,n,c,u,e,f,z,x)=>0<=k/\k<=4/\IP aI aJ aK t a9 ⟨a0,a1,a2,a5,a6⟩ k n c u e f z x,fun s_=>match s_ with|(k,n,c,u,e,f,z,x)=>(4-k).toNat,⟨(0,0,a0,a1,a2,a5,a6,a9),?_,?_⟩,?_⟩;rotate_left;(focus (cbv;done));intro s_ hk;obtain⟨k,n,c,u,e,f,z,x⟩:=s_;replace hk:0<=k/\k<=4/\IP aI aJ aK t a9 ⟨a0,a1,a2,a5,a6⟩ k n c u e f z x:=hk;obtain⟨k0,k1,k2⟩:=hk;cbv)|(refine⟨[0,1,5,6,8,9],[0,23],Int×Int×aa×aa×aa×aa×aa,fun s_=>match s_ with|(i,m,d,v,g,h,y)=>[.reg 9 (.j i),.reg 5 (.j m),.leaf 0 0 ⟨0,0,none,.own (.s 1 d)⟩,.leaf 0 1 ⟨0,0,none,.own (.s 1 v)⟩,.leaf 0 2 ⟨0,0,none,.own (.s 2 g)⟩,.leaf 0 5 ⟨0,0,none,.own (.s 2 h)⟩,.leaf 0 6 ⟨0,0,none,.own (.s 3 y)⟩],fun s_=>match s_ with|(i,m,d,v,g,h,y)=>0<=i/\i<=((ap (ap a9 t 0) k 0).length:Int)/\OH aI aJ aK t a9 ⟨a0,a1,a2,a5,a6⟩ k i m d v g h y,fun s_=>match s_ with|(i,m,d,v,g,h,y)=>((ap (ap a9 t 0) k 0).length-i).toNat,⟨(0,n,c,u,e,f,z),?_,?_⟩,?_⟩;rotate_left;(focus (cbv;done));intro s_ hi;obtain⟨i,m,d,v,g,h,y⟩:=s_;replace hi:0<=i/\i<=((ap (ap a9 t 0) k 0).length:Int)/\OH aI aJ aK t a9 ⟨a0,a1,a2,a5,a6⟩ k i m d v g h y:=hi;obtain⟨i0,i1,i2⟩:=hi;cbv)|(refine ab (O.ar .add .i64 i 1,O.ar .add .i64 m 1,F.fzC aI aJ aK d v g h y (O.pi (.s 1 (F.clT (O.sub (O.ps (.s 1 x) [(O.ad 0 t,0)]) 0 (O.ln (O.ps (.s 1 x) [(O.ad 0 t,0)]))) k 8)) [(O.ad 0 i,0)]),F.fzU aI aJ aK d v g h y (O.pi (.s 1 (F.clT (O.sub (O.ps (.s 1 x) [(O.ad 0 t,0)]) 0 (O.ln (O.ps (.s 1 x) [(O.ad 0 t,0)]))) k 8)) [(O.ad 0 i,0)]),F.fzE aI aJ aK d v g h y (O.pi (.s 1 (F.clT (O.sub (O.ps (.s 1 x) [(O.ad 0 t,0)]) 0 (O.ln (O.ps (.s 1 x) [(O.ad 0 t,0)]))) k 8)) [(O.ad 0 i,0)]),F.fzF aI aJ aK d v g h y (O.pi (.s 1 (F.clT (O.sub (O.ps (.s 1 x) [(O.ad 0 t,0)]) 0 (O.ln (O.ps (.s 1 x) [(O.ad 0 t,0)]))) k 8)) [(O.ad 0 i,0)]),F.fzS aI aJ aK d v g h y (O.pi (.s 1 (F.clT (O.sub (O.ps (.s 1 x) [(O.ad 0 t,0)]) 0 (O.ln (O.ps (.s 1 x) [(O.ad 0 t,0)]))) k 8)) [(O.ad 0 i,0)])) ?_ ?_ ?_;focus (cbv;done))|(refine ab (O.ar .add .i64 k 1,m,d,v,g,h,y,(O.up (.s 1 x) [(O.ad 0 t,0)] [.s 1 (F.clK (O.sub (O.ps (.s 1 x) [(O.ad 0 t,0)]) 0 (O.ln (O.ps (.s 1 x) [(O.ad 0 t,0)]))) k 8)])) ?_ ?_ ?_;focus (cbv;done))
 all_goals((try subst hos);subst hO hr hF;(try simp only[nc]at*);(try simp only[ah,SS,sa,az]at*);(try simp only[lp]at*);(try rw[di (by omega) (by omega)]);(try have t0:=TT.t0);(try have t1:=TT.t1);(try have sp:=RI TT k2 k0 (by omega));(try have hT:=RL k2 TT k0 (by omega));(try have w9:=(Mm TT k2 k0 (by omega)).1);(try simp only[hT]at*);(try simp only[Or w9 t0 sp.2.2.2]at*);(try simp only[ng (l:=ap (ap a9 t 0) k 0) (sz:=1) (j:=0) (i:=i) i0]at*);(try have wl:=jQ (jQ hp.r9 t0 t1) k0 (by have:=(Cv TT.k).1;omega));(try have ll:=(Cv TT.k).2 k.toNat (by omega));(try rw[IS k0]at ll);(try have gl:=Ep i2 k0 (by omega) i0 (by omega));(try have tl:=TT.l);(try have f1:bR .add .i64 i 1=i+1:=bE (by omega));(try have f2:bR .add .i64 m 1=m+1:=bE (by omega));(try simp only[f1]at*);(try simp only[f2]at*);(try have ht:=Er hp hk hn TT k2 i2 k0 (by omega) i0 (by omega));(try have E:=Jk k2 (by omega)))
 all_goals first
  | (show(_:List DV)=_
     first
      |exact dZ E.2.2.2.2.2.2
      |(rw[E.2.2.2.2.2.2];exact rfl)
      |done)
  | (show(_:List H)=_
     first
      |(rw[<-E.1, <-E.2.1, <-E.2.2.1, <-E.2.2.2.1, <-E.2.2.2.2.1, <-E.2.2.2.2.2.1];exact rfl)
      |done)
  |omega
  |exact gp
  |exact JF wl i0 (by omega)
  |exact sp
  |exact⟨sp.1,sp.2.1⟩
  |exact AK w9 t0 sp.2.2.2
  |exact vM w9 t0 sp.2.2.2
  |exact Dv w9 t0 sp.2.2.2
  |exact Er hp hk hn TT k2 i2 k0 (by omega) i0 (by omega)
  |exact RJ
  |exact RN k2
  |exact Mi i2 k0 (by omega) i0 (by omega)
  |exact Mn k2 k0 i2 (by omega)
  |exact⟨t0,sp.2.2.2⟩
  |(show aP _ _=true;kernel_rfl)
  |exact⟨ac2,ac2⟩
  |exact ac2
  |done
def ea :EC:=fun F=>fun
 |[.agg hl_,.one (.v (.int .i64 t))]=>hL hl_ fun a0 a1 a2 a3 a4 a5 a6 a7 a8 a9 aA aB aC aD aE aF aG aH aI aJ aK aL aM aN=>(fun _=>rT a0 a1 a2 a4 a5 a6 a7 a8 a9 aA aB aD aL/\ak a9<=1000000000,[.agg (UF (F.ifR (F.t0B (F.hpI a0 a1 a2 a3 a4 a5 a6 a7 a8 a9 aA aB aC aD aE aF aG aH aI aJ aK aL aM aN) a3 t a9) (F.tkC aI aJ aK a0 a1 a2 a5 a6 (F.fuL a9 t)) a0) (F.ifR (F.t0B (F.hpI a0 a1 a2 a3 a4 a5 a6 a7 a8 a9 aA aB aC aD aE aF aG aH aI aJ aK aL aM aN) a3 t a9) (F.tkU aI aJ aK a0 a1 a2 a5 a6 (F.fuL a9 t)) a1) (F.ifR (F.t0B (F.hpI a0 a1 a2 a3 a4 a5 a6 a7 a8 a9 aA aB aC aD aE aF aG aH aI aJ aK aL aM aN) a3 t a9) (F.tkE aI aJ aK a0 a1 a2 a5 a6 (F.fuL a9 t)) a2) a3 a4 (F.ifR (F.t0B (F.hpI a0 a1 a2 a3 a4 a5 a6 a7 a8 a9 aA aB aC aD aE aF aG aH aI aJ aK aL aM aN) a3 t a9) (F.tkF aI aJ aK a0 a1 a2 a5 a6 (F.fuL a9 t)) a5) (F.ifR (F.t0B (F.hpI a0 a1 a2 a3 a4 a5 a6 a7 a8 a9 aA aB aC aD aE aF aG aH aI aJ aK aL aM aN) a3 t a9) (F.tkS aI aJ aK a0 a1 a2 a5 a6 (F.fuL a9 t)) a6) a7 a8 (F.ifR (F.t0B (F.hpI a0 a1 a2 a3 a4 a5 a6 a7 a8 a9 aA aB aC aD aE aF aG aH aI aJ aK aL aM aN) a3 t a9) (F.fuD a9 t) a9) aA aB aC aD aE aF aG aH aI aJ aK aL aM aN),.j (F.ifN (F.t0B (F.hpI a0 a1 a2 a3 a4 a5 a6 a7 a8 a9 aA aB aC aD aE aF aG aH aI aJ aK aL aM aN) a3 t a9) (F.lenI (F.fuL a9 t)) 0)])
 |_=>none
theorem vd :ec 23 ea:=by
 intro _ _ _ h hp;dsimp only[ea,F0,hL]at h;split at h;rotate_left;cases h;split at h<;>cases h
 rename_i t _ a0 a1 a2 a3 a4 a5 a6 a7 a8 a9 aA aB aC aD aE aF aG aH aI aJ aK aL aM aN;obtain⟨hp,h9⟩:=hp;refine cb Zt1 Tryz.func23 ?_
 intro O r F hO hr hF;cbv
 repeat' first|apply By|(apply bD<;>intro hb<;>cbv)|(refine⟨[1,4,6,7,8],[4,6],Int×Int×aa×aa×aa×aa×aa×aa,fun s_=>match s_ with|(k,n,c,u,e,f,z,x)=>[.reg 8 (.j k),.reg 7 (.j n),.leaf 6 0 ⟨0,0,none,.own (.s 1 c)⟩,.leaf 6 1 ⟨0,0,none,.own (.s 1 u)⟩,.leaf 6 2 ⟨0,0,none,.own (.s 2 e)⟩,.leaf 6 5 ⟨0,0,none,.own (.s 2 f)⟩,.leaf 6 6 ⟨0,0,none,.own (.s 3 z)⟩,.leaf 6 9 ⟨0,0,none,.own (.s 1 x)⟩],fun s_=>match s_ with|(k,n,c,u,e,f,z,x)=>0<=k/\k<=4/\IP aI aJ aK t a9 ⟨a0,a1,a2,a5,a6⟩ k n c u e f z x,fun s_=>match s_ with|(k,n,c,u,e,f,z,x)=>(4-k).toNat,⟨(0,0,a0,a1,a2,a5,a6,a9),?_,?_⟩,?_⟩;rotate_left;(focus (cbv;done));intro s_ hk;obtain⟨k,n,c,u,e,f,z,x⟩:=s_;replace hk:0<=k/\k<=4/\IP aI aJ aK t a9 ⟨a0,a1,a2,a5,a6⟩ k n c u e f z x:=hk;obtain⟨k0,k1,k2⟩:=hk;cbv)|(refine⟨[1,4,6,7,8,39,40,41],[4,6,31],Int×Int×aa×aa×aa×aa×aa,fun s_=>match s_ with|(i,m,d,v,g,h,y)=>[.reg 41 (.j i),.reg 7 (.j m),.leaf 6 0 ⟨0,0,none,.own (.s 1 d)⟩,.leaf 6 1 ⟨0,0,none,.own (.s 1 v)⟩,.leaf 6 2 ⟨0,0,none,.own (.s 2 g)⟩,.leaf 6 5 ⟨0,0,none,.own (.s 2 h)⟩,.leaf 6 6 ⟨0,0,none,.own (.s 3 y)⟩],fun s_=>match s_ with|(i,m,d,v,g,h,y)=>0<=i/\i<=((ap (ap a9 t 0) k 0).length:Int)/\OH aI aJ aK t a9 ⟨a0,a1,a2,a5,a6⟩ k i m d v g h y,fun s_=>match s_ with|(i,m,d,v,g,h,y)=>((ap (ap a9 t 0) k 0).length-i).toNat,⟨(0,n,c,u,e,f,z),?_,?_⟩,?_⟩;rotate_left;(focus (cbv;done));intro s_ hi;obtain⟨i,m,d,v,g,h,y⟩:=s_;replace hi:0<=i/\i<=((ap (ap a9 t 0) k 0).length:Int)/\OH aI aJ aK t a9 ⟨a0,a1,a2,a5,a6⟩ k i m d v g h y:=hi;obtain⟨i0,i1,i2⟩:=hi;cbv)|(refine ab (O.ar .add .i64 i 1,O.ar .add .i64 m 1,F.fzC aI aJ aK d v g h y (O.pi (.s 1 (F.clT (O.sub (O.ps (.s 1 x) [(O.ad 0 t,0)]) 0 (O.ln (O.ps (.s 1 x) [(O.ad 0 t,0)]))) k 8)) [(O.ad 0 i,0)]),F.fzU aI aJ aK d v g h y (O.pi (.s 1 (F.clT (O.sub (O.ps (.s 1 x) [(O.ad 0 t,0)]) 0 (O.ln (O.ps (.s 1 x) [(O.ad 0 t,0)]))) k 8)) [(O.ad 0 i,0)]),F.fzE aI aJ aK d v g h y (O.pi (.s 1 (F.clT (O.sub (O.ps (.s 1 x) [(O.ad 0 t,0)]) 0 (O.ln (O.ps (.s 1 x) [(O.ad 0 t,0)]))) k 8)) [(O.ad 0 i,0)]),F.fzF aI aJ aK d v g h y (O.pi (.s 1 (F.clT (O.sub (O.ps (.s 1 x) [(O.ad 0 t,0)]) 0 (O.ln (O.ps (.s 1 x) [(O.ad 0 t,0)]))) k 8)) [(O.ad 0 i,0)]),F.fzS aI aJ aK d v g h y (O.pi (.s 1 (F.clT (O.sub (O.ps (.s 1 x) [(O.ad 0 t,0)]) 0 (O.ln (O.ps (.s 1 x) [(O.ad 0 t,0)]))) k 8)) [(O.ad 0 i,0)])) ?_ ?_ ?_;focus (cbv;done))|(refine ab (O.ar .add .i64 k 1,m,d,v,g,h,y,(O.up (.s 1 x) [(O.ad 0 t,0)] [.s 1 (F.clK (O.sub (O.ps (.s 1 x) [(O.ad 0 t,0)]) 0 (O.ln (O.ps (.s 1 x) [(O.ad 0 t,0)]))) k 8)])) ?_ ?_ ?_;focus (cbv;done))
 all_goals(subst hO hr hF;(try simp only[nc]at*);(try simp only[ah,SS,sa,az]at*);(try simp only[lp]at*);(try have gt:t0B (hpI a0 a1 a2 a3 a4 a5 a6 a7 a8 a9 aA aB aC aD aE aF aG aH aI aJ aK aL aM aN) a3 t a9=true:=(by assumption));(try have gt:=Dw gt);(try have hk:=gt.1);(try have hn:=gt.2.1);(try have TT:=HN hp h9 hk gt.2.2);(try rw[di (by omega) (by omega)]);(try have t0:=TT.t0);(try have t1:=TT.t1);(try have sp:=RI TT k2 k0 (by omega));(try have hT:=RL k2 TT k0 (by omega));(try have w9:=(Mm TT k2 k0 (by omega)).1);(try simp only[hT]at*);(try simp only[Or w9 t0 sp.2.2.2]at*);(try simp only[ng (l:=ap (ap a9 t 0) k 0) (sz:=1) (j:=0) (i:=i) i0]at*);(try have wl:=jQ (jQ hp.r9 t0 t1) k0 (by have:=(Cv TT.k).1;omega));(try have ll:=(Cv TT.k).2 k.toNat (by omega));(try rw[IS k0]at ll);(try have gl:=Ep i2 k0 (by omega) i0 (by omega));(try have tl:=TT.l);(try have f1:bR .add .i64 i 1=i+1:=bE (by omega));(try have f2:bR .add .i64 m 1=m+1:=bE (by omega));(try simp only[f1]at*);(try simp only[f2]at*);(try have ht:=Er hp hk hn TT k2 i2 k0 (by omega) i0 (by omega));(try have E:=Jk k2 (by omega)))
 all_goals first
  | (show(_:List DV)=_
     first
      |(rw[show t0B (hpI a0 a1 a2 a3 a4 a5 a6 a7 a8 a9 aA aB aC aD aE aF aG aH aI aJ aK aL aM aN) a3 t a9=false by assumption];exact rfl)
      |(rw[show t0B (hpI a0 a1 a2 a3 a4 a5 a6 a7 a8 a9 aA aB aC aD aE aF aG aH aI aJ aK aL aM aN) a3 t a9=true by assumption,E.1,E.2.1,E.2.2.1,E.2.2.2.1,E.2.2.2.2.1,E.2.2.2.2.2.1,E.2.2.2.2.2.2];exact rfl)
      |done)
  | (show(_:List H)=_
     first
      |done)
  |omega
  |exact gp
  |exact hp
  |exact hp.hp
  |exact JF wl i0 (by omega)
  |exact sp
  |exact⟨sp.1,sp.2.1⟩
  |exact AK w9 t0 sp.2.2.2
  |exact vM w9 t0 sp.2.2.2
  |exact Dv w9 t0 sp.2.2.2
  |exact Er hp hk hn TT k2 i2 k0 (by omega) i0 (by omega)
  |exact RJ
  |exact RN k2
  |exact Mi i2 k0 (by omega) i0 (by omega)
  |exact Mn k2 k0 i2 (by omega)
  |exact⟨t0,sp.2.2.2⟩
  |(show aP _ _=true;kernel_rfl)
  |exact⟨ac2,ac2⟩
  |exact ac2
  |done
abbrev Zt2 :cW:={
 Φ:=qj
 F0:=F0
 ct:=fun F f=>match f with|88=>eU F|41=>cE F|_=>fun _=>none
 hc:=(by
  intro f;dsimp only;split;exact tU;exact lY;exact cX)
 pt:=fun F f=>match f with|94=>some (lh F)|_=>none
 hp:=(by
  intro f mk h;dsimp only at h;split at h<;>cases h
  exact yj)}
theorem vE :ec 22 ea:=by
 intro _ _ _ h hp;dsimp only[ea,F0,hL]at h;split at h;rotate_left;cases h;split at h<;>cases h
 rename_i t _ a0 a1 a2 a3 a4 a5 a6 a7 a8 a9 aA aB aC aD aE aF aG aH aI aJ aK aL aM aN;obtain⟨hp,h9⟩:=hp;refine cb Zt2 Tryz.func22 ?_
 intro O r F hO hr hF;cbv
 repeat' first|apply By|(apply bD<;>intro hb<;>cbv)
 all_goals(subst hO hr hF;(try simp only[nc]at*);(try simp only[ah,SS,sa,az]at*);(try have gt:t0B (hpI a0 a1 a2 a3 a4 a5 a6 a7 a8 a9 aA aB aC aD aE aF aG aH aI aJ aK aL aM aN) a3 t a9=true:=(by assumption));(try have gh:=Dw gt))
 all_goals first
  | (show(_:List DV)=_
     first
      |(rw[show t0B (hpI a0 a1 a2 a3 a4 a5 a6 a7 a8 a9 aA aB aC aD aE aF aG aH aI aJ aK aL aM aN) a3 t a9=false by assumption];exact rfl)
      |(rw[show t0B (hpI a0 a1 a2 a3 a4 a5 a6 a7 a8 a9 aA aB aC aD aE aF aG aH aI aJ aK aL aM aN) a3 t a9=true by assumption];exact rfl)
      |done)
  | (show(_:List H)=_
     first
      |done)
  |omega
  |exact gp
  |exact hp
  |exact hp.hp
  |exact⟨hp,gh.1,gh.2.1,gh.2.2,h9⟩
  |(have h:=RG (b:=t0B (hpI a0 a1 a2 a3 a4 a5 a6 a7 a8 a9 aA aB aC aD aE aF aG aH aI aJ aK aL aM aN) a3 t a9) hp h9 rfl;rw[show t0B (hpI a0 a1 a2 a3 a4 a5 a6 a7 a8 a9 aA aB aC aD aE aF aG aH aI aJ aK aL aM aN) a3 t a9=true by assumption]at h;exact h)
  |(show aP _ _=true;kernel_rfl)
  |exact⟨ac2,ac2⟩
  |exact ac2
  |done
end Go.V