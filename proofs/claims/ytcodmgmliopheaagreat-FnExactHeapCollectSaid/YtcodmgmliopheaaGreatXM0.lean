/- Contracts. -/
import Derived.Test.YtcodmgmliopheaaGreatXLayAt
set_option linter.all false
open Go
open And renaming intro->By
open List renaming length_cons->ac7,length_nil->ade
open True renaming intro->ac2
namespace Go.V
open Go Go.Proofs
set_option maxRecDepth 1000000
set_option maxHeartbeats 8000000
def fY :EC:=fun F=>fun
 |[.one (.s 1 l),.one (.v (.int .i64 x))]=>some (fun _=>Rw [tI] l,[.k (F.hasB l x)])
 |_=>none
theorem jU :ec 266 fY:=by
 intro _ _ _ h hp;dsimp only[fY,F0]at h;split at h<;>cases h
 rename_i l x;have hw:=hp;have hm:=hw.1;unfold maxLen at hm;refine cb nB Tryz.func266 ?_
 intro O r F hO hr hF;cbv
 repeat' first|apply By|(apply bD<;>intro hb<;>cbv)|(refine⟨[0,1,5],[],Int,fun i=>[.reg 5 (.j i)],fun i=>0<=i/\i<=((l.length:Nat):Int)/\upto (dt (R1 l x)) i,fun i=>(l.length)-i.toNat,⟨0,?_,?_⟩,?_⟩;rotate_left;(focus (cbv;done));intro i hi;replace hi:0<=i/\i<=((l.length:Nat):Int)/\upto (dt (R1 l x)) i:=hi;obtain⟨i0,i1,i2⟩:=hi;cbv)|(refine ab (O.ar .add .i64 i 1) ?_ ?_ ?_;focus (cbv;done))
 all_goals(subst hO hr hF;(try simp only[nc]at*);(try simp only[ah,SS,sa,az]at*);(try rw[di (by omega) (by omega)]))
 all_goals first
  | (show(_:List DV)=_
     first
      |(refine ai ?_;symm;rw[Jn];exact⟨i.toNat,by omega,by rw[Int.toNat_of_nonneg i0];assumption⟩)
      |(refine ai ?_;symm;exact Ux i2 (by omega))
      |done)
  |omega
  |exact gp
  |exact bM
  |exact bj i2 (by unfold dt R1;rw[CX (fun e=>absurd e.symm (by assumption))];rfl)
  |done
def iK :EP:=fun F=>fun
 |[.one (.v (.int .i64 pg)),.mp [.own (.m true es)]]=>some (fun _=>True,[[.own (.m true (F.muT es pg))]],[.k (!(F.mgbI es pg))])
 |_=>none
theorem tn :ep 286 iK:=by
 intro _ _ _ _ h hp;dsimp only[iK,F0]at h;split at h<;>cases h
 rename_i pg es;refine pb nB Tryz.func286 ?_
 intro O r os F hO hr hos hF;cbv
 repeat' first|apply By|(apply bD<;>intro hb<;>cbv)
 all_goals((try subst hos);subst hO hr hF;(try simp only[nc]at*);(try simp only[ah,SS,sa,az]at*))
 all_goals first|(show(_:List DV)=_;exact rfl)|(show(_:List H)=_;exact rfl)|done
abbrev Lb1 :cW:=eF (fun F f=>match f with|265=>bY F|267=>dH F|266=>fY F|_=>fun _=>none) (by
 intro f;dsimp only;split;exact hD;exact qF;exact jU;exact cX)
def cR :EC:=fun F=>fun
 |[.one (.s 3 sp),.one (.s 3 lg)]=>some (fun _=>Rw [tI,tI,tI] sp/\Rw [tI,tI,tI] lg/\sp.length<=1073741824/\lg.length<=1073741824,[.k (F.layOk sp lg)])
 |_=>none
theorem kv :ec 136 cR:=by
 intro _ _ _ h hp;dsimp only[cR,F0]at h;split at h<;>cases h
 rename_i sp lg;obtain⟨hs,hl,ns,nl⟩:=hp;refine cb Lb1 Tryz.func136 ?_
 intro O r F hO hr hF;cbv
 repeat' first|apply By|(apply bD<;>intro hb<;>cbv)|(refine⟨[0,1,5,6],[5],Int×aa,fun s_=>match s_ with|(i,o)=>[.reg 6 (.j i),.reg 5 (.one (.vw 5 0 0 0 (O.ln o))),.leaf 5 0 ⟨0,0,none,.own (.s 1 o)⟩],fun s_=>match s_ with|(i,o)=>0<=i/\i<=(sp.length:Int)/\OX sp i o,fun s_=>match s_ with|(i,o)=>sp.length-i.toNat,⟨(0,[]),?_,?_⟩,?_⟩;rotate_left;(focus (cbv;done));intro s_ hi;obtain⟨i,o⟩:=s_;replace hi:0<=i/\i<=(sp.length:Int)/\OX sp i o:=hi;obtain⟨i0,i1,i2⟩:=hi;cbv)|(refine⟨[1,5,7],[5],Int×aa,fun s_=>match s_ with|(j,o1)=>[.reg 7 (.j j),.reg 5 (.one (.vw 5 0 0 0 (O.ln o1))),.leaf 5 0 ⟨0,0,none,.own (.s 1 o1)⟩],fun s_=>match s_ with|(j,o1)=>0<=j/\j<=(lg.length:Int)/\Wo sp lg j o1,fun s_=>match s_ with|(j,o1)=>lg.length-j.toNat,⟨(0,o),?_,?_⟩,?_⟩;rotate_left;(focus (cbv;done));intro s_ hj;obtain⟨j,o1⟩:=s_;replace hj:0<=j/\j<=(lg.length:Int)/\Wo sp lg j o1:=hj;obtain⟨j0,j1,j2⟩:=hj;cbv)|(refine⟨[1,5,7,8],[5],Int×aa,fun s_=>match s_ with|(k,o2)=>[.reg 8 (.j k),.reg 5 (.one (.vw 5 0 0 0 (O.ln o2))),.leaf 5 0 ⟨0,0,none,.own (.s 1 o2)⟩],fun s_=>match s_ with|(k,o2)=>0<=k/\k<=ag lg j 1/\OW sp lg j k o2,fun s_=>match s_ with|(k,o2)=>(ag lg j 1-k).toNat,⟨(0,o1),?_,?_⟩,?_⟩;rotate_left;(focus (cbv;done));intro s_ hk;obtain⟨k,o2⟩:=s_;replace hk:0<=k/\k<=ag lg j 1/\OW sp lg j k o2:=hk;obtain⟨k0,k1,k2⟩:=hk;cbv)|(refine ab (O.ar .add .i64 k 1,O.cat o2 (O.sub [[.i (O.ar .add .i64 (O.gi lg j 0) k)]] 0 (O.ln [[.i (O.ar .add .i64 (O.gi lg j 0) k)]]))) ?_ ?_ ?_;focus (cbv;done))|(refine ab (O.ar .add .i64 j 1,o2) ?_ ?_ ?_;focus (cbv;done))|(refine ab (O.ar .add .i64 i 1,O.cat o (O.sub [[.i (O.gi sp i 0)]] 0 (O.ln [[.i (O.gi sp i 0)]]))) ?_ ?_ ?_;focus (cbv;done))
 all_goals(subst hO hr hF;(try simp only[nc]at*);(try simp only[ah,SS,sa,az]at*);(try rw[di (by omega) (by omega)]);(try have z:=(YF (k:=k) (by assumption) k0 (by assumption)));(try(obtain⟨z1,z2,z3,z4,z5⟩:=z));(try have z6:bR .add .i64 k 1=k+1:=bE (by omega));(try simp only[z3]at*);(try simp only[z6]at*))
 all_goals first
  | (show(_:List DV)=_
     first
      |(refine ai ?_;symm;exact JA i0 (by assumption) (by assumption))
      |(refine ai ?_;symm;exact Vb i2 i0 (by assumption) (by assumption))
      |(refine ai ?_;symm;exact JB j0 (by assumption) (by assumption))
      |(refine ai ?_;symm;exact U7 k2 j0 (by assumption) k0 (by assumption) (by assumption))
      |(refine ai ?_;symm;exact U9 j2 j1 (by assumption))
      |done)
  |omega
  |exact gp
  |exact YL i2 (by omega)
  |exact YH k2 (by omega) (by omega) (by omega)
  |(have q:=M8 i2;constructor<;>(simp only[ac7,ade];omega))
  |(have q:=M7 k2;constructor<;>(simp only[ac7,ade];omega))
  |exact YM i2 i0 (by assumption) (by assumption)
  |exact YI k2 k0 (by omega) (by assumption)
  |exact U8 k2 j0 (by assumption) k0 k1 (by assumption)
  |exact abX j2
  |exact Vd i2 i1 (by assumption)
  |exact abY
  |exact⟨ac2,ac2⟩
  |(have t:=oz (by assumption);have b:=na t.1;omega)
  |done
abbrev Lc1 :cW:={
 Φ:=qj
 F0:=F0
 ct:=fun F f=>match f with|287=>bY F|288=>dH F|_=>fun _=>none
 hc:=(by
  intro f;dsimp only;split;exact gZ;exact qz;exact cX)
 pt:=fun F f=>match f with|286=>some (iK F)|_=>none
 hp:=(by
  intro f mk h;dsimp only at h;split at h<;>cases h
  exact tn)}
theorem pP :ec 168 cR:=by
 intro _ _ _ h hp;dsimp only[cR,F0]at h;split at h<;>cases h
 rename_i sp lg;obtain⟨hs,hl,ns,nl⟩:=hp;refine cb Lc1 Tryz.func168 ?_
 intro O r F hO hr hF;cbv
 repeat' first|apply By|(apply bD<;>intro hb<;>cbv)|(refine⟨[1,6,14,15,16],[5],Int×aa,fun s_=>match s_ with|(i,es)=>[.reg 16 (.j i),.leaf 5 0 ⟨0,0,none,.own (.m true es)⟩],fun s_=>match s_ with|(i,es)=>0<=i/\i<=(sp.length:Int)/\Tv sp i es,fun s_=>match s_ with|(i,es)=>sp.length-i.toNat,⟨(0,[]),?_,?_⟩,?_⟩;rotate_left;(focus (cbv;done));intro s_ hi;obtain⟨i,es⟩:=s_;replace hi:0<=i/\i<=(sp.length:Int)/\Tv sp i es:=hi;obtain⟨i0,i1,i2⟩:=hi;cbv)|(refine⟨[6,31,32,33],[5],Int×aa,fun s_=>match s_ with|(j,es1)=>[.reg 33 (.j j),.leaf 5 0 ⟨0,0,none,.own (.m true es1)⟩],fun s_=>match s_ with|(j,es1)=>0<=j/\j<=(lg.length:Int)/\Wn sp lg j es1,fun s_=>match s_ with|(j,es1)=>lg.length-j.toNat,⟨(0,es),?_,?_⟩,?_⟩;rotate_left;(focus (cbv;done));intro s_ hj;obtain⟨j,es1⟩:=s_;replace hj:0<=j/\j<=(lg.length:Int)/\Wn sp lg j es1:=hj;obtain⟨j0,j1,j2⟩:=hj;cbv)|(refine⟨[6,10,11,31,32,33],[5,10],Int×aa,fun s_=>match s_ with|(k,es2)=>[.reg 11 (.j k),.leaf 5 0 ⟨0,0,none,.own (.m true es2)⟩],fun s_=>match s_ with|(k,es2)=>0<=k/\k<=ag lg j 1/\Tt sp lg j k es2,fun s_=>match s_ with|(k,es2)=>(ag lg j 1-k).toNat,⟨(0,es1),?_,?_⟩,?_⟩;rotate_left;(focus (cbv;done));intro s_ hk;obtain⟨k,es2⟩:=s_;replace hk:0<=k/\k<=ag lg j 1/\Tt sp lg j k es2:=hk;obtain⟨k0,k1,k2⟩:=hk;cbv)|(refine ab (O.ar .add .i64 k 1,F.muT es2 (O.ar .add .i64 (O.gi lg j 0) k)) ?_ ?_ ?_;focus (cbv;done))|(refine ab (O.ar .add .i64 j 1,es2) ?_ ?_ ?_;focus (cbv;done))|(refine ab (O.ar .add .i64 i 1,F.muT es (O.gi sp i 0)) ?_ ?_ ?_;focus (cbv;done))
 all_goals(subst hO hr hF;(try simp only[nc]at*);(try simp only[ah,SS,sa,az]at*);(try rw[di (by omega) (by omega)]);(try have z:=(YF (k:=k) (by assumption) k0 (by assumption)));(try(obtain⟨z1,z2,z3,z4,z5⟩:=z));(try have z6:bR .add .i64 k 1=k+1:=bE (by omega));(try simp only[z3]at*);(try simp only[z6]at*))
 all_goals first
  | (show(_:List DV)=_
     first
      |(refine ai ?_;symm;exact UY i2 i0 (by assumption) (Y6 (b:=mgbI es (ag sp i 0)) hb))
      |(refine ai ?_;symm;exact US k2 j0 (by assumption) k0 (by assumption) (Y6 (b:=mgbI es2 (ag lg j 0+k)) hb))
      |(refine ai ?_;symm;exact JA i0 (by assumption) (by assumption))
      |(refine ai ?_;symm;exact JB j0 (by assumption) (by assumption))
      |(refine ai ?_;symm;exact UU j2 j1 (by assumption))
      |done)
  |omega
  |exact gp
  |exact Yp i2 i0 (by assumption) (Y7 (b:=mgbI es (ag sp i 0)) hb)
  |exact Yo k2 k0 (Y7 (b:=mgbI es2 (ag lg j 0+k)) hb)
  |exact UT k2 j0 (by assumption) k1 (by assumption)
  |exact abR j2
  |exact UZ i2 i1 (by assumption)
  |exact abT
  |(have t:=oz (by assumption);have b:=na t.1;omega)
  |done
abbrev Ld1 :cW:=eF (fun F f=>match f with|322=>nR F|311=>cB F|323=>dk F|324=>dz F|136=>cR F|318=>j3 F|371=>cB F|372=>dk F|373=>dz F|_=>fun _=>none) (by
 intro f;dsimp only;split;exact B4;exact iG;exact pO;exact sx;exact kv;exact sk;exact lV;exact pX;exact sG;exact cX)
def fv :EC:=fun F=>fun
 |[.one (.s 3 sp),.one (.s 3 lg),.one (.v (.int .i64 a))]=>some (fun _=>Rw [tI,tI,tI] sp/\Rw [tI,tI,tI] lg,[.agg [.i (F.dnK sp lg a),.i (F.dnI sp lg a),.i (F.dnS sp a),.i (F.dnO sp lg a)]])
 |_=>none
theorem iH :ec 216 fv:=by
 intro _ _ _ h hp;dsimp only[fv,F0]at h;split at h<;>cases h
 rename_i sp lg a;obtain⟨hs,hl⟩:=hp;have ms:=hs.1;unfold maxLen at ms;have ml:=hl.1;unfold maxLen at ml;refine cb Ld1 Tryz.func216 ?_
 intro O r F hO hr hF;cbv
 repeat' first|apply By|(apply bD<;>intro hb<;>cbv)|(refine⟨[1,2,6,14,15,16],[6],Int,fun i=>[.reg 16 (.j i)],fun i=>0<=i/\i<=((sp.length:Nat):Int)/\upto (dt (CE sp a)) i,fun i=>(sp.length)-i.toNat,⟨0,?_,?_⟩,?_⟩;rotate_left;(focus (cbv;done));intro i hi;replace hi:0<=i/\i<=((sp.length:Nat):Int)/\upto (dt (CE sp a)) i:=hi;obtain⟨i0,i1,i2⟩:=hi;cbv)|(refine ab (O.ar .add .i64 i 1) ?_ ?_ ?_;focus (cbv;done))|(refine⟨[2,6,39,40,41],[6],Int,fun j=>[.reg 41 (.j j)],fun j=>0<=j/\j<=((lg.length:Nat):Int)/\upto (dt (Gr lg a)) j,fun j=>(lg.length)-j.toNat,⟨0,?_,?_⟩,?_⟩;rotate_left;(focus (cbv;done));intro j hj;replace hj:0<=j/\j<=((lg.length:Nat):Int)/\upto (dt (Gr lg a)) j:=hj;obtain⟨j0,j1,j2⟩:=hj;cbv)|(refine ab (O.ar .add .i64 j 1) ?_ ?_ ?_;focus (cbv;done))
 all_goals(subst hO hr hF;(try simp only[nc]at*);(try simp only[ah,SS,sa,az]at*);(try rw[di (by omega) (by omega)]))
 all_goals first
  | (show(_:List DV)=_
     first
      |exact ow1 i2 i0 (by assumption) (by assumption) (by assumption)
      |exact ow2 i2 i0 (by assumption) (by assumption) (by assumption)
      |exact ow3 i2 (by assumption) j2 j0 (by assumption) (by assumption)
      |exact ow4 i2 (by assumption) j2 (by assumption)
      |done)
  |omega
  |exact gp
  |exact Z9 i2 (by assumption)
  |exact YB j2 (by assumption)
  |exact bM
  |done
def gA :EC:=fun F=>fun
 |[.one (.s 3 sp),.one (.s 3 lg),.one (.v (.int .i64 a))]=>some (fun _=>Rw [tI,tI,tI] sp/\Rw [tI,tI,tI] lg/\sp.length<=1073741824/\lg.length<=1073741824/\ -9223372036854775808<=a/\a<=9223372036854775807,[.agg [.i (F.dzK sp lg a),.i (F.dzI sp lg a),.i (F.dzS sp lg a),.i (F.dzO sp lg a)]])
 |_=>none
theorem lU :ec 274 gA:=by
 intro _ _ _ h hp;dsimp only[gA,F0]at h;split at h<;>cases h
 rename_i sp lg a;obtain⟨hs,hl,ns,nl,a0,a1⟩:=hp;refine cb Ld1 Tryz.func274 ?_
 intro O r F hO hr hF;cbv
 repeat' first|apply By|(apply bD<;>intro hb<;>cbv)|(refine⟨[0,1,2,6,7],[6],Int,fun i=>[.reg 7 (.j i)],fun i=>0<=i/\i<=((sp.length:Nat):Int)/\upto (dt (CE sp a)) i,fun i=>(sp.length)-i.toNat,⟨0,?_,?_⟩,?_⟩;rotate_left;(focus (cbv;done));intro i hi;replace hi:0<=i/\i<=((sp.length:Nat):Int)/\upto (dt (CE sp a)) i:=hi;obtain⟨i0,i1,i2⟩:=hi;cbv)|(refine ab (O.ar .add .i64 i 1) ?_ ?_ ?_;focus (cbv;done))|(refine⟨[1,2,6,11],[6],Int,fun j=>[.reg 11 (.j j)],fun j=>0<=j/\j<=((lg.length:Nat):Int)/\upto (dt (Gr lg a)) j,fun j=>(lg.length)-j.toNat,⟨0,?_,?_⟩,?_⟩;rotate_left;(focus (cbv;done));intro j hj;replace hj:0<=j/\j<=((lg.length:Nat):Int)/\upto (dt (Gr lg a)) j:=hj;obtain⟨j0,j1,j2⟩:=hj;cbv)|(refine ab (O.ar .add .i64 j 1) ?_ ?_ ?_;focus (cbv;done))
 all_goals(subst hO hr hF;(try simp only[nc]at*);(try simp only[ah,SS,sa,az]at*);(try rw[di (by omega) (by omega)]))
 all_goals first
  | (show(_:List DV)=_
     first
      |exact Eq.trans (ow1 i2 i0 (by assumption) (by assumption) (by assumption)) (Pw (by assumption))
      |exact Eq.trans (ow2 i2 i0 (by assumption) (by assumption) (by assumption)) (Pw (by assumption))
      |exact Eq.trans (ow3 i2 (by assumption) j2 j0 (by assumption) (by assumption)) (Pw (by assumption))
      |exact Eq.trans (ow4 i2 (by assumption) j2 (by assumption)) (Pw (by assumption))
      |exact abv (by assumption)
      |done)
  |omega
  |exact gp
  |exact Z9 i2 (by assumption)
  |exact YB j2 (by assumption)
  |exact bM
  |exact⟨hs,hl,ns,nl⟩
  |done
abbrev Le1 :cW:=eF (fun F f=>match f with|136=>cR F|274=>gA F|_=>fun _=>none) (by
 intro f;dsimp only;split;exact kv;exact lU;exact cX)
def jI :EC:=fun F=>fun
 |[.one (.s 3 sp),.one (.s 3 lg)]=>some (fun _=>Rw [tI,tI,tI] sp/\Rw [tI,tI,tI] lg/\sp.length<=1073741824/\lg.length<=1073741824,[.one (.s 1 (F.laL sp lg))])
 |_=>none
theorem vF :ec 277 jI:=by
 intro _ _ _ h hp;dsimp only[jI,F0]at h;split at h<;>cases h
 rename_i sp lg;obtain⟨hs,hl,ns,nl⟩:=hp;refine cb Le1 Tryz.func277 ?_
 intro O r F hO hr hF;cbv
 repeat' first|apply By|(apply bD<;>intro hb<;>cbv)|(refine⟨[0,1,5,6],[5],Int×aa,fun s_=>match s_ with|(i,o)=>[.reg 6 (.j i),.reg 5 (.one (.vw 5 0 0 0 (O.ln o))),.leaf 5 0 ⟨0,0,none,.own (.s 1 o)⟩],fun s_=>match s_ with|(i,o)=>0<=i/\i<=512/\OV sp lg i o,fun s_=>match s_ with|(i,o)=>512-i.toNat,⟨(0,[]),?_,?_⟩,?_⟩;rotate_left;(focus (cbv;done));intro s_ hi;obtain⟨i,o⟩:=s_;replace hi:0<=i/\i<=512/\OV sp lg i o:=hi;obtain⟨i0,i1,i2⟩:=hi;cbv)|(refine ab (O.ar .add .i64 i 1,O.cat o (O.sub [[.i i]] 0 (O.ln [[.i i]]))) ?_ ?_ ?_;focus (cbv;done))|(refine ab (O.ar .add .i64 i 1,o) ?_ ?_ ?_;focus (cbv;done))
 all_goals(subst hO hr hF;(try simp only[nc]at*);(try simp only[ah,SS,sa,az]at*);(try rw[di (by omega) (by omega)]))
 all_goals first
  | (show(_:List DV)=_
     first
      |(refine v5 ?_;exact U3 i2 i1 (by assumption))
      |(refine v5 ?_;exact U2 i2 i0 (by assumption))
      |done)
  |omega
  |exact⟨hs,hl,ns,nl⟩
  |exact⟨hs,hl,ns,nl,by omega,by omega⟩
  |(have q:=i2.l;constructor<;>(simp only[ac7,ade];omega))
  |exact MX i2 i0 (by assumption) (YQ (by assumption) (by assumption))
  |exact MX i2 i0 (by assumption) (YR (by assumption) (by assumption))
  |exact R6 i2 i0 (by assumption) (YN (by assumption))
  |exact R6 i2 i0 (by assumption) (YO (by assumption) (by assumption))
  |exact abV
  |(have q:true=false:=(by assumption);cases q)
  |exact⟨ac2,ac2⟩
  |done
end Go.V