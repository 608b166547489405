/- Contracts. -/
import Derived.Test.YtcodmgmliopheaaGreatXLayOt
set_option linter.all false
open Go
open And renaming intro->By
open Int renaming toNat_of_nonneg->IS
open List renaming length_cons->ac7
open True renaming intro->ac2
namespace Go.V
open Go Go.Proofs
set_option maxRecDepth 1000000
set_option maxHeartbeats 8000000
abbrev Pa0 :cW:=eF (fun F f=>match f with|112=>cH F|_=>fun _=>none) (by
 intro f;dsimp only;split;exact jr;exact cX)
def jW :EC:=fun F=>fun
 |[.agg [.s 1 a0,.s 1 a1,.s 2 a2,.v (.int .i64 a3),.s 1 a4],.one (.v (.int .i64 p))]=>some (fun _=>Rw [tI,tI] a2,[.k (F.mapB a2 p)])
 |_=>none
theorem sc :ec 289 jW:=by
 intro _ _ _ h hp;dsimp only[jW,F0]at h;split at h<;>cases h
 rename_i a0 a1 a2 a3 a4 p;refine cb Pa0 Tryz.func289 ?_
 intro O r F hO hr hF;cbv
 repeat' first|apply By|(apply bD<;>intro hb<;>cbv)
 all_goals(subst hO hr hF;(try simp only[nc]at*);(try simp only[ah,SS,sa,az]at*))
 all_goals first|(show(_:List DV)=_;refine ai ?_;unfold mapB;rw[Eg];done)|exact hp|done
abbrev Pa1 :cW:=eF (fun F f=>match f with|206=>cY F|289=>jW F|290=>eN F|112=>cH F|209=>eL F|_=>fun _=>none) (by
 intro f;dsimp only;split;exact tj;exact sc;exact xi;exact jr;exact xg;exact cX)
def mg :EC:=fun F=>fun
 |[.agg hl_]=>hL hl_ fun a0 a1 a2 a3 a4 a5 a6 a7 a8 a9 aA aB aC aD aE aF aG aH aI aJ aK aL aM aN=>(fun _=>OZ a6 a7 a8 a9 aA aB aD/\layOk a6 a7=true/\Rw [tI,tI] a2/\a2.length<=1099511627776/\Rw [tI,tI] a5/\a5.length<=1099511627776,[.k (F.pgI a2 a5 a6 a7)])
 |_=>none
theorem zf :ec 169 mg:=by
 intro _ _ _ h hp;dsimp only[mg,F0,hL]at h;split at h;rotate_left;cases h;split at h<;>cases h
 rename_i a0 a1 a2 a3 a4 a5 a6 a7 a8 a9 aA aB aC aD aE aF aG aH aI aJ aK aL aM aN;obtain⟨N,hlay,hew,hel,hfw,hfl⟩:=hp;have hsw:=N.sw;have hlw:=N.lw;have hsl:=N.sl;have hll:=N.ll;have F:=Vf hlay;have lgF:∀ j:Int,0<=j->j<a7.length->0<=ag a7 j 0/\1<=ag a7 j 1/\ag a7 j 0+ag a7 j 1<=32:=fun j h0 h1=>by
  have t:=oz (F.l j.toNat (by omega));rw[IS h0]at t;have b:=na t.1;omega
 refine cb Pa1 Tryz.func169 ?_
 intro O r F hO hr hF;cbv
 repeat' first|apply By|(apply bD<;>intro hb<;>cbv)|(refine⟨[1,18,19,20],[1],Int,fun i=>[.reg 20 (.j i)],fun i=>0<=i/\i<=(a6.length:Int)/\upto (yL a6) i,fun i=>a6.length-i.toNat,⟨0,?_,?_⟩,?_⟩;rotate_left;(focus (cbv;done));intro i hi;replace hi:0<=i/\i<=(a6.length:Int)/\upto (yL a6) i:=hi;obtain⟨i0,i1,i2⟩:=hi;cbv)|(refine⟨[1,5,42,43,44],[1,40],Int×aa,fun s_=>match s_ with|(q,m)=>[.reg 44 (.j q),.leaf 40 0 ⟨0,0,none,.own (.m true m)⟩],fun s_=>match s_ with|(q,m)=>0<=q/\q<=(a6.length:Int)/\yS m (oJ a6 q.toNat),fun s_=>match s_ with|(q,m)=>a6.length-q.toNat,⟨(0,[]),?_,?_⟩,?_⟩;rotate_left;(focus (cbv;done));intro s_ hq;obtain⟨q,m⟩:=s_;replace hq:0<=q/\q<=(a6.length:Int)/\yS m (oJ a6 q.toNat):=hq;obtain⟨q0,q1,q2⟩:=hq;cbv)|(refine⟨[1,5,53,54,55],[1,40],Int×aa,fun s_=>match s_ with|(j,m1)=>[.reg 55 (.j j),.leaf 40 0 ⟨0,0,none,.own (.m true m1)⟩],fun s_=>match s_ with|(j,m1)=>0<=j/\j<=(a7.length:Int)/\Wq a2 a6 a7 j m1,fun s_=>match s_ with|(j,m1)=>a7.length-j.toNat,⟨(0,m),?_,?_⟩,?_⟩;rotate_left;(focus (cbv;done));intro s_ hj;obtain⟨j,m1⟩:=s_;replace hj:0<=j/\j<=(a7.length:Int)/\Wq a2 a6 a7 j m1:=hj;obtain⟨j0,j1,j2⟩:=hj;cbv)|(refine⟨[1,5,9,10,53,54,55],[1,40,9],Int×aa,fun s_=>match s_ with|(p,m2)=>[.reg 10 (.j p),.leaf 40 0 ⟨0,0,none,.own (.m true m2)⟩],fun s_=>match s_ with|(p,m2)=>ag a7 j 0<=p/\p<=ag a7 j 0+ag a7 j 1/\Wp a2 a6 a7 j (p-ag a7 j 0) m2,fun s_=>match s_ with|(p,m2)=>(ag a7 j 0+ag a7 j 1-p).toNat,⟨(O.gi a7 j 0,m1),?_,?_⟩,?_⟩;rotate_left;(focus (cbv;done));intro s_ hp;obtain⟨p,m2⟩:=s_;replace hp:ag a7 j 0<=p/\p<=ag a7 j 0+ag a7 j 1/\Wp a2 a6 a7 j (p-ag a7 j 0) m2:=hp;obtain⟨p0,p1,p2⟩:=hp;cbv)|(refine⟨[1,5,98,99],[1,40],Int,fun e=>[.reg 99 (.j e)],fun e=>0<=e/\e<=(a2.length:Int)/\upto (CW a2 a5 a6 a7) e,fun e=>a2.length-e.toNat,⟨0,?_,?_⟩,?_⟩;rotate_left;(focus (cbv;done));intro e he;replace he:0<=e/\e<=(a2.length:Int)/\upto (CW a2 a5 a6 a7) e:=he;obtain⟨e0,e1,e2⟩:=he;cbv)|(refine⟨[1,122],[1],List Int,fun vs=>[.reg 122 (.one (.it m1 vs))],fun vs=>True/\∀ k∈vs,k<(a2.length:Int),fun vs=>m1.length-vs.length,⟨[],?_,?_⟩,?_⟩;rotate_left;(focus (cbv;done));intro vs yk;replace yk:True/\∀ k∈vs,k<(a2.length:Int):=yk;obtain⟨vs0,vs1⟩:=yk;cbv)|(refine⟨[1,136,137,138],[1],Int,fun u=>[.reg 138 (.j u)],fun u=>0<=u/\u<=(a6.length:Int)/\upto (OO a2 a6) u,fun u=>a6.length-u.toNat,⟨0,?_,?_⟩,?_⟩;rotate_left;(focus (cbv;done));intro u hu;replace hu:0<=u/\u<=(a6.length:Int)/\upto (OO a2 a6) u:=hu;obtain⟨u0,u1,u2⟩:=hu;cbv)|(refine⟨[1,14,136,137,138,146,147,148],[1,14],Int,fun v=>[.reg 148 (.j v)],fun v=>0<=v/\v<=u/\upto (Lc a2 a6 u) v,fun v=>(u-v).toNat,⟨0,?_,?_⟩,?_⟩;rotate_left;(focus (cbv;done));intro v hv;replace hv:0<=v/\v<=u/\upto (Lc a2 a6 u) v:=hv;obtain⟨v0,v1,v2⟩:=hv;cbv)|(refine ab (O.ar .add .i64 p 1,O.mu m2 p (.v (.bool true))) ?_ ?_ ?_;focus (cbv;done))|(refine ab (O.ar .add .i64 j 1,m2) ?_ ?_ ?_;focus (cbv;done))|(refine ab (O.ar .add .i64 q 1,O.mu m (O.gi a6 q 0) (.v (.bool true))) ?_ ?_ ?_;focus (cbv;done))|(refine ab (O.ar .add .i64 v 1) ?_ ?_ ?_;focus (cbv;done))|(refine ab (O.ar .add .i64 u 1) ?_ ?_ ?_;focus (cbv;done))|(refine ab (O.ar .add .i64 e 1) ?_ ?_ ?_;focus (cbv;done))|(refine ab (O.ar .add .i64 i 1) ?_ ?_ ?_;focus (cbv;done))|(refine ab (kk::vs) ?_ ?_ ?_;focus (cbv;done))|((intro(kk:Int) (hkk:O.pr _);cbv))|((intro(hkk:O.pr _);cbv))
 all_goals(subst hO hr hF;(try simp only[nc]at*);(try simp only[ah,SS,sa,az]at*);(try rw[di (by omega) (by omega)]);(try have zi:=CF i0 (by omega));(try simp only[zi]at*);(try have zj:=CF j0 (by omega));(try simp only[zj]at*);(try have lf:=lgF j j0 (by assumption));(try have zl:bR .add .i64 (ag a7 j 0) (ag a7 j 1)=ag a7 j 0+ag a7 j 1:=bE (by omega));(try simp only[zl]at*);(try have zp:bR .add .i64 p 1=p+1:=bE (by omega));(try simp only[zp]at*);(try have zv:bR .add .i64 v 1=v+1:=bE (by omega));(try simp only[zv]at*);(try simp only[Zi (VA j2 j1 (by assumption))]at*);(try simp only[Bu]at*);(try have tl:(List.take u.toNat a6).length=u.toNat:=by(rw[List.length_take];omega));(try have hwt:=Rw.take hsw u.toNat);(try simp only[yC (es:=a6) (n:=u.toNat) (i:=v) (by omega)]at*))
 all_goals first
  | (show(_:List DV)=_
     first
      |(refine ai ?_;symm;exact Zo i0 (by assumption) (Kj (by assumption) (by assumption)))
      |(refine ai ?_;symm;exact SD j0 (by assumption) (R7 (Kj (by assumption) (by assumption))))
      |(refine ai ?_;symm;exact SD j0 (by assumption) (Zs p0 (by assumption) (by omega)))
      |(refine ai ?_;symm;exact SE e0 (by assumption) (Rr (by assumption)))
      |(refine ai ?_;symm;exact SE e0 (by assumption) (Rs (by assumption)))
      |(refine ai ?_;symm;exact Zp (Zc (((VA j2 j1 (by assumption)).k _).1 hkk.1) (by assumption)))
      |(refine ai ?_;symm;exact Zq u0 (by assumption) (abZ v0 (by omega) (by assumption) (by assumption)))
      |(refine ai ?_;symm;exact ab5 i2 (by omega) j2.ok (by omega) e2 (by omega) (ab3 (VA j2 j1 (by assumption)) vs1 hkk) u2 (by omega))
      |done)
  |omega
  |exact gp
  |(show aP _ _=true;kernel_rfl)
  |exact⟨hew,hel⟩
  |exact⟨hfw,hfl⟩
  |exact bM
  |exact bj i2 (Kk (by omega))
  |exact bj i2 (Kl (by assumption))
  |(rw[rh q0];exact NA q2)
  |exact Zh
  |exact ab6 q2 q1 (by omega)
  |exact Zr j2 (Kk (by omega))
  |exact Zr j2 (Kl (by assumption))
  |exact Zt p2 p0 (by omega)
  |exact Zu p2 j0 (by omega) p1 (by omega)
  |exact bj e2 (Xy (by assumption) (by assumption))
  |exact aau vs1 (by assumption)
  |exact fun k hk=>by cases hk
  |(have q:=hkk.2;simp only[ac7];omega)
  |exact bj v2 (YS (by assumption))
  |exact bj v2 (YT (by assumption))
  |exact bj u2 (ab0 v2 (by omega) u0)
  |done
abbrev Pa2 :cW:=eF (fun F f=>match f with|268=>cY F|266=>fY F|269=>eN F|_=>fun _=>none) (by
 intro f;dsimp only;split;exact nz;exact jU;exact yc;exact cX)
def k9 :EC:=fun F=>fun
 |[.agg hl_]=>hL hl_ fun a0 a1 a2 a3 a4 a5 a6 a7 a8 a9 aA aB aC aD aE aF aG aH aI aJ aK aL aM aN=>(fun _=>OZ a6 a7 a8 a9 aA aB aD/\layOk a6 a7=true/\Rw [tI,tI] a2/\a2.length<=1099511627776/\Rw [tI,tI] a5/\a5.length<=1099511627776,[.k (F.pgS a2 a5 a6 a7)])
 |_=>none
theorem yh :ec 137 k9:=by
 intro _ _ _ h hp;dsimp only[k9,F0,hL]at h;split at h;rotate_left;cases h;split at h<;>cases h
 rename_i a0 a1 a2 a3 a4 a5 a6 a7 a8 a9 aA aB aC aD aE aF aG aH aI aJ aK aL aM aN;obtain⟨N,hlay,hew,hel,hfw,hfl⟩:=hp;have hsw:=N.sw;have hlw:=N.lw;have hsl:=N.sl;have hll:=N.ll;have F:=Vf hlay;have lgF:∀ j:Int,0<=j->j<a7.length->0<=ag a7 j 0/\1<=ag a7 j 1/\ag a7 j 0+ag a7 j 1<=32:=fun j h0 h1=>by
  have t:=oz (F.l j.toNat (by omega));rw[IS h0]at t;have b:=na t.1;omega
 refine cb Pa2 Tryz.func137 ?_
 intro O r F hO hr hF;cbv
 repeat' first|apply By|(apply bD<;>intro hb<;>cbv)|(refine⟨[1,3,4,5,6],[1,3,5],Int×aa,fun s_=>match s_ with|(i,o)=>[.reg 6 (.j i),.reg 5 (.one (.vw 5 0 0 0 (O.ln o))),.leaf 5 0 ⟨0,0,none,.own (.s 1 o)⟩],fun s_=>match s_ with|(i,o)=>0<=i/\i<=(a6.length:Int)/\TH a6 i o,fun s_=>match s_ with|(i,o)=>a6.length-i.toNat,⟨(0,[]),?_,?_⟩,?_⟩;rotate_left;(focus (cbv;done));intro s_ hi;obtain⟨i,o⟩:=s_;replace hi:0<=i/\i<=(a6.length:Int)/\TH a6 i o:=hi;obtain⟨i0,i1,i2⟩:=hi;cbv)|(refine⟨[1,3,4,5,7],[1,3,5],Int×aa,fun s_=>match s_ with|(j,o1)=>[.reg 7 (.j j),.reg 5 (.one (.vw 5 0 0 0 (O.ln o1))),.leaf 5 0 ⟨0,0,none,.own (.s 1 o1)⟩],fun s_=>match s_ with|(j,o1)=>0<=j/\j<=(a7.length:Int)/\OI a2 a6 a7 j o1,fun s_=>match s_ with|(j,o1)=>a7.length-j.toNat,⟨(0,o),?_,?_⟩,?_⟩;rotate_left;(focus (cbv;done));intro s_ hj;obtain⟨j,o1⟩:=s_;replace hj:0<=j/\j<=(a7.length:Int)/\OI a2 a6 a7 j o1:=hj;obtain⟨j0,j1,j2⟩:=hj;cbv)|(refine⟨[1,3,4,5,7,8],[1,3,5],Int×aa,fun s_=>match s_ with|(k,o2)=>[.reg 8 (.j k),.reg 5 (.one (.vw 5 0 0 0 (O.ln o2))),.leaf 5 0 ⟨0,0,none,.own (.s 1 o2)⟩],fun s_=>match s_ with|(k,o2)=>0<=k/\k<=ag a7 j 1/\TG a2 a6 a7 j k o2,fun s_=>match s_ with|(k,o2)=>(ag a7 j 1-k).toNat,⟨(0,o1),?_,?_⟩,?_⟩;rotate_left;(focus (cbv;done));intro s_ hk;obtain⟨k,o2⟩:=s_;replace hk:0<=k/\k<=ag a7 j 1/\TG a2 a6 a7 j k o2:=hk;obtain⟨k0,k1,k2⟩:=hk;cbv)|(refine⟨[1,3,4,5,10],[1,3,5],Int,fun t=>[.reg 10 (.j t)],fun t=>0<=t/\t<=(o1.length:Int)/\upto (fun t=>decide (ag o1 t 0<a2.length)) t,fun t=>o1.length-t.toNat,⟨0,?_,?_⟩,?_⟩;rotate_left;(focus (cbv;done));intro t ht;replace ht:0<=t/\t<=(o1.length:Int)/\upto (fun t=>decide (ag o1 t 0<a2.length)) t:=ht;obtain⟨t0,t1,t2⟩:=ht;cbv)|(refine⟨[1,3,4,5,11],[1,3,5],Int,fun e=>[.reg 11 (.j e)],fun e=>0<=e/\e<=(a2.length:Int)/\upto (CW a2 a5 a6 a7) e,fun e=>a2.length-e.toNat,⟨0,?_,?_⟩,?_⟩;rotate_left;(focus (cbv;done));intro e he;replace he:0<=e/\e<=(a2.length:Int)/\upto (CW a2 a5 a6 a7) e:=he;obtain⟨e0,e1,e2⟩:=he;cbv)|(refine ab (O.ar .add .i64 k 1,O.cat o2 (O.sub [[.i (O.ar .add .i64 (O.gi a7 j 0) k)]] 0 (O.ln [[.i (O.ar .add .i64 (O.gi a7 j 0) k)]]))) ?_ ?_ ?_;focus (cbv;done))|(refine ab (O.ar .add .i64 j 1,o2) ?_ ?_ ?_;focus (cbv;done))|(refine ab (O.ar .add .i64 e 1) ?_ ?_ ?_;focus (cbv;done))|(refine ab (O.ar .add .i64 t 1) ?_ ?_ ?_;focus (cbv;done))|(refine ab (O.ar .add .i64 i 1,O.cat o (O.sub [[.i (O.gi a6 i 0)]] 0 (O.ln [[.i (O.gi a6 i 0)]]))) ?_ ?_ ?_;focus (cbv;done))
 all_goals(subst hO hr hF;(try simp only[nc]at*);(try simp only[ah,SS,sa,az]at*);(try rw[di (by omega) (by omega)]);(try have zi:=CF i0 (by omega));(try simp only[zi]at*);(try have zj:=CF j0 (by omega));(try simp only[zj]at*);(try have lf:=lgF j j0 (by assumption));(try have z6:bR .add .i64 k 1=k+1:=bE (by omega));(try simp only[z6]at*);(try have z5:bR .add .i64 (ag a7 j 0) k=ag a7 j 0+k:=bE (by omega));(try simp only[z5]at*);(try have w1:=acm (by assumption));(try have w2:=acg k2 (by omega));(try have w3:=ZH hlay j2 j1 (by assumption) hsl hll);(try simp only[vU t0]at*);(try have w4:=w3.1);(try unfold maxLen at w4);(try have z7:bR .add .i64 t 1=t+1:=bE (by omega));(try simp only[z7]at*);(try simp only[acj j2 j1 (by assumption)]at*);(try simp only[YW e0 (by assumption)]at*))
 all_goals first
  | (show(_:List DV)=_
     first
      |(refine ai ?_;symm;exact Zw i0 (by assumption) (Kj (by assumption) (by assumption)))
      |(refine ai ?_;symm;exact SF j0 (by assumption) (R7 (Kj (by assumption) (by assumption))))
      |(refine ai ?_;symm;exact SF j0 (by assumption) (R8 k0 (by assumption) (by omega)))
      |(refine ai ?_;symm;exact Zx (aci j2 j1 (by assumption) t0 (by assumption) (by assumption)))
      |(refine ai ?_;symm;exact SG e0 (by assumption) (Rr (by assumption)))
      |(refine ai ?_;symm;exact SG e0 (by assumption) (Uj (by assumption) (by assumption)))
      |(refine ai ?_;symm;exact ab7 i2.ok (by omega) j2.ok (by omega) e2 (by omega) (ack j2 j1 (by assumption) t2 (by omega)))
      |done)
  |omega
  |exact gp
  |(show aP _ _=true;kernel_rfl)
  |exact⟨hew,hel⟩
  |exact⟨hfw,hfl⟩
  |exact Do w3 t0 (by assumption)
  |(constructor<;>(simp only[ac7,List.length_nil];omega))
  |exact SL i2 i0 (Kk (by omega))
  |exact SL i2 i0 (Kl (by assumption))
  |exact acl
  |exact ach i2 i1 (by omega)
  |exact ZF j2 (Kk (by omega))
  |exact ZF j2 (Kl (by assumption))
  |exact ZG k2 k0 (by omega)
  |exact ZI k2 j0 (by omega) (by omega) k1 (by omega)
  |exact bM
  |exact bj t2 (decide_eq_true (by assumption))
  |exact bj e2 (Xz (by assumption) (by assumption))
  |exact⟨ac2,ac2⟩
  |done
abbrev Pa3 :cW:=eF (fun F f=>match f with|268=>cY F|146=>dF F|270=>eL F|_=>fun _=>none) (by
 intro f;dsimp only;split;exact nz;exact jT;exact ya;exact cX)
def jJ :EC:=fun F=>fun
 |[.agg hl_]=>hL hl_ fun a0 a1 a2 a3 a4 a5 a6 a7 a8 a9 aA aB aC aD aE aF aG aH aI aJ aK aL aM aN=>(fun _=>OZ a6 a7 a8 a9 aA aB aD/\Rw [tI,tI] a2/\a2.length<=1099511627776,[.k (F.smS a2 a6)])
 |_=>none
theorem vH :ec 138 jJ:=by
 intro _ _ _ h hp;dsimp only[jJ,F0,hL]at h;split at h;rotate_left;cases h;split at h<;>cases h
 rename_i a0 a1 a2 a3 a4 a5 a6 a7 a8 a9 aA aB aC aD aE aF aG aH aI aJ aK aL aM aN;obtain⟨N,hew,hel⟩:=hp;have hsw:=N.sw;have hsl:=N.sl;have fr:=fun p=>Up (es:=a2) (p:=p) hel
 refine cb Pa3 Tryz.func138 ?_
 intro O r F hO hr hF;cbv
 repeat' first|apply By|(apply bD<;>intro hb<;>cbv)|(refine⟨[1,3],[1],Int,fun i=>[.reg 3 (.j i)],fun i=>0<=i/\i<=(a6.length:Int)/\upto (msA a2 a6) i,fun i=>a6.length-i.toNat,⟨0,?_,?_⟩,?_⟩;rotate_left;(focus (cbv;done));intro i hi;replace hi:0<=i/\i<=(a6.length:Int)/\upto (msA a2 a6) i:=hi;obtain⟨i0,i1,i2⟩:=hi;cbv)|(refine⟨[1,3,4,5],[1,4],Int,fun k=>[.reg 5 (.j k)],fun k=>0<=k/\k<=((fpg a2 (ag a6 i 0)).length:Int)/\upto (M9 a2 a6 i) k,fun k=>(fpg a2 (ag a6 i 0)).length-k.toNat,⟨0,?_,?_⟩,?_⟩;rotate_left;(focus (cbv;done));intro k hk;replace hk:0<=k/\k<=((fpg a2 (ag a6 i 0)).length:Int)/\upto (M9 a2 a6 i) k:=hk;obtain⟨k0,k1,k2⟩:=hk;cbv)|(refine ab (O.ar .add .i64 k 1) ?_ ?_ ?_;focus (cbv;done))|(refine ab (O.ar .add .i64 i 1) ?_ ?_ ?_;focus (cbv;done))
 all_goals(subst hO hr hF;(try simp only[nc]at*);(try simp only[ah,SS,sa,az]at*);(try rw[di (by omega) (by omega)]);(try simp only[vU k0]at*);(try have w1:=fr (ag a6 i 0));(try have w2:=w1.1);(try have w3:=w1.2);(try have z6:bR .add .i64 k 1=k+1:=bE (by omega));(try simp only[z6]at*);(try have w4:=fun h=>aah (sp:=a6) (p:=ag (fpg a2 (ag a6 i 0)) k 0) h))
 all_goals first
  | (show(_:List DV)=_
     first
      |(refine ai ?_;symm;exact bW (p:=msA a2 a6) i0 (by assumption) (Y3 k0 (by assumption) (by assumption) (by assumption)))
      |(refine ai ?_;symm;exact bW (p:=msA a2 a6) i0 (by assumption) (Y4 k0 (by assumption) (by assumption) (by assumption)))
      |(refine ai ?_;symm;exact bN i2 (by omega))
      |done)
  |omega
  |exact gp
  |(show aP _ _=true;kernel_rfl)
  |exact⟨hew,hel⟩
  |exact⟨hsw,by omega⟩
  |exact Do w2 k0 (by assumption)
  |exact bM
  |exact bj k2 (YU (by assumption))
  |exact bj k2 (YV (by assumption) (by assumption))
  |exact bj i2 (bN k2 (by omega))
  |(have q:true=false:=(by assumption);cases q)
  |exact⟨ac2,ac2⟩
  |done
end Go.V