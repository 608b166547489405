/- Contracts. -/
import Derived.Test.YtcodmgmliopheaaGreatXLayMt
set_option linter.all false
open Go
open And renaming intro->By
namespace Go.V
open Go Go.Proofs
set_option maxRecDepth 1000000
set_option maxHeartbeats 8000000
def kC :EC:=fun F=>fun
 |[.agg [.v (.int .i64 d0),.v (.int .i64 d1),.v (.int .i64 d2),.v (.int .i64 d3)],.ptr [.v (.int .i64 e0),.v (.int .i64 e1),.v (.int .i64 e2),.v (.int .i64 e3)]]=>some (fun _=>True,[.k (F.eqB d0 e0)])
 |_=>none
theorem xr :ec 292 kC:=by
 intro _ _ _ h hp;dsimp only[kC,F0]at h;split at h<;>cases h
 rename_i d0 d1 d2 d3 e0 e1 e2 e3;refine cb nB Tryz.func292 ?_
 exact aa5
abbrev Na1 :cW:=eF (fun F f=>match f with|292=>kC F|_=>fun _=>none) (by
 intro f;dsimp only;split;exact xr;exact cX)
def aZ :EC:=fun F=>fun
 |[.one (.s 4 os),.fn 292 [[.v (.int .i64 e0),.v (.int .i64 e1),.v (.int .i64 e2),.v (.int .i64 e3)]]]=>some (fun _=>Rw [tI,tI,tI,tI] os/\os.length<=1099511627776,[.j (F.oiI os e0)])
 |_=>none
theorem cp :ec 239 aZ:=by
 intro _ _ _ h hp;dsimp only[aZ,F0]at h;split at h<;>cases h
 rename_i os e0 e1 e2 e3;obtain⟨hw,hn⟩:=hp;refine cb Na1 Tryz.func239 ?_
 intro O r F hO hr hF;cbv
 repeat' first|apply By|(apply bD<;>intro hb<;>cbv)|(refine⟨[0,1,7,8],[0],Int,fun i=>[.reg 8 (.j i)],fun i=>0<=i/\i<=((os.length:Nat):Int)/\upto (dt (HW os e0)) i,fun i=>(os.length)-i.toNat,⟨0,?_,?_⟩,?_⟩;rotate_left;(focus (cbv;done));intro i hi;replace hi:0<=i/\i<=((os.length:Nat):Int)/\upto (dt (HW os e0)) i:=hi;obtain⟨i0,i1,i2⟩:=hi;cbv)|(refine ab (O.ar .add .i64 i 1) ?_ ?_ ?_;focus (cbv;done))
 all_goals(subst hO hr hF;(try simp only[nc]at*);(try simp only[ah,SS,sa,az]at*);(try rw[di (by omega) (by omega)]))
 all_goals first
  | (show(_:List DV)=_
     first
      |exact dZ (fF i2 i0 (by assumption) (show HW os e0 i=true from by assumption)).symm
      |exact dZ (gB i2 (by assumption)).symm
      |done)
  |omega
  |exact gp
  |(show(lk _ _).isSome=true;kernel_rfl)
  |exact bM
  |exact bj i2 (oD (show HW os e0 i=false from by assumption))
  |done
abbrev Na2 :cW:=eF (fun F f=>match f with|239=>aZ F|_=>fun _=>none) (by
 intro f;dsimp only;split;exact cp;exact cX)
def aW :EC:=fun F=>fun
 |[.one (.s 4 os),.fn 292 [[.v (.int .i64 e0),.v (.int .i64 e1),.v (.int .i64 e2),.v (.int .i64 e3)]]]=>some (fun _=>Rw [tI,tI,tI,tI] os/\os.length<=1099511627776,[.k (F.oiB os e0)])
 |_=>none
theorem cd :ec 291 aW:=by
 intro _ _ _ h hp;dsimp only[aW,F0]at h;split at h<;>cases h
 rename_i os e0 e1 e2 e3;refine cb Na2 Tryz.func291 ?_
 intro O r F hO hr hF;cbv
 repeat' first|apply By|(apply bD<;>intro hb<;>cbv)
 all_goals(subst hO hr hF;(try simp only[nc]at*);(try simp only[ah,SS,sa,az]at*))
 all_goals first
  | (show(_:List DV)=_
     first
      |exact ai (gY (by unfold oiB;simp only[SS,decide_eq_true_eq]))
      |done)
  |exact hp
  |done
abbrev Na3 :cW:=eF (fun F f=>match f with|91=>aj F|291=>aW F|216=>fv F|107=>dG F|89=>aj F|274=>gA F|232=>dG F|_=>fun _=>none) (by
 intro f;dsimp only;split;exact bu;exact cd;exact iH;exact qv;exact bC;exact lU;exact qE;exact cX)
def fV :EC:=fun F=>fun
 |[.agg hl_]=>hL hl_ fun a0 a1 a2 a3 a4 a5 a6 a7 a8 a9 aA aB aC aD aE aF aG aH aI aJ aK aL aM aN=>(fun _=>OZ a6 a7 a8 a9 aA aB aD/\layOk a6 a7=true,[.k (F.objOk a6 a7 a8 a9 aH)])
 |_=>none
theorem B7 :ec 173 fV:=by
 intro _ _ _ h hp;dsimp only[fV,F0,hL]at h;split at h;rotate_left;cases h;split at h<;>cases h
 rename_i a0 a1 a2 a3 a4 a5 a6 a7 a8 a9 aA aB aC aD aE aF aG aH aI aJ aK aL aM aN;obtain⟨N,hlay⟩:=hp;have how:=N.ow;have hol:=N.ol;have hsw:=N.sw;have hlw:=N.lw;have hsl:=N.sl;have hll:=N.ll;have hcl:=N.cl;have hlc:=av (es:=a9);have hsb:bR .sub .i64 (a9.length:Int) 1=a9.length-1:=dD (by omega);refine cb Na3 Tryz.func173 ?_
 intro O r F hO hr hF;cbv
 repeat' first|apply By|(apply bD<;>intro hb<;>cbv)|(refine⟨[1,9,10,11],[1],Int,fun i=>[.reg 11 (.j i)],fun i=>0<=i/\i<=((a8.length:Nat):Int)/\upto (Dl a6 a7 a8 a9 aH) i,fun i=>(a8.length)-i.toNat,⟨0,?_,?_⟩,?_⟩;rotate_left;(focus (cbv;done));intro i hi;replace hi:0<=i/\i<=((a8.length:Nat):Int)/\upto (Dl a6 a7 a8 a9 aH) i:=hi;obtain⟨i0,i1,i2⟩:=hi;cbv)|(refine ab (O.ar .add .i64 i 1) ?_ ?_ ?_;focus (cbv;done))
 all_goals(subst hO hr hF;(try simp only[nc]at*);(try simp only[ah,SS,sa,az]at*);(try rw[di (by omega) (by omega)]);(try have z:=CF i0 (by omega));(try simp only[z,hsb,Bu]at*);(try have d1:=fun h=>Jc (sp:=a6) (lg:=a7) (a:=ag a8 i 1) h);(try have d3:=fun h=>Rm (sp:=a6) (lg:=a7) (a:=ag a8 i 1) h))
 all_goals first
  |(exfalso;omega)
  | (show(_:List DV)=_
     first
      |(refine ai ?_;symm;exact qe i0 (by assumption) (Si (by assumption) (by assumption)))
      |(refine ai ?_;symm;exact qe i0 (by assumption) (Sj (by assumption)))
      |(refine ai ?_;symm;exact qe i0 (by assumption) (Sk (by assumption)))
      |(refine ai ?_;symm;exact qe i0 (by assumption) (Sl (by assumption)))
      |(refine ai ?_;symm;exact qe i0 (by assumption) (JU (Sn (by assumption))))
      |(refine ai ?_;symm;exact qe i0 (by assumption) (JU (Ze (by first|exact .inl (by assumption)|exact .inr (by assumption)|exact .inl (by omega)) (by first|exact .inl (by assumption)|exact .inr (by assumption)|exact .inl (by omega)))))
      |(refine ai ?_;symm;exact Nw i2 (by omega))
      |(have q:false=true:=(by assumption);cases q)
      |done)
  |omega
  |exact gp
  |(show aP _ _=true;kernel_rfl)
  |exact⟨hsw,hlw⟩
  |exact⟨Rw.take how _,by rw[List.length_take];omega⟩
  |exact bM
  |exact bj i2 (P9 (by first|exact .inl (by omega)|exact .inr (by assumption)) (by assumption) (by assumption) (by assumption) (Sv (by assumption) (by assumption) (by assumption)))
  |exact bj i2 (P9 (by first|exact .inl (by omega)|exact .inr (by assumption)) (by assumption) (by assumption) (by assumption) (Sw (by assumption) (by assumption) (by assumption)))
  |(have q:false=true:=(by assumption);cases q)
  |done
theorem Ad :ec 142 fV:=by
 intro _ _ _ h hp;dsimp only[fV,F0,hL]at h;split at h;rotate_left;cases h;split at h<;>cases h
 rename_i a0 a1 a2 a3 a4 a5 a6 a7 a8 a9 aA aB aC aD aE aF aG aH aI aJ aK aL aM aN;obtain⟨N,hlay⟩:=hp;have how:=N.ow;have hol:=N.ol;have hsw:=N.sw;have hlw:=N.lw;have hsl:=N.sl;have hll:=N.ll;have hcl:=N.cl;have hlc:=av (es:=a9);have hsb:bR .sub .i64 (a9.length:Int) 1=a9.length-1:=dD (by omega);refine cb Na3 Tryz.func142 ?_
 intro O r F hO hr hF;cbv
 repeat' first|apply By|(apply bD<;>intro hb<;>cbv)|(refine⟨[1,3],[1],Int,fun i=>[.reg 3 (.j i)],fun i=>0<=i/\i<=(a8.length:Int)/\upto (Dl a6 a7 a8 a9 aH) i,fun i=>a8.length-i.toNat,⟨0,?_,?_⟩,?_⟩;rotate_left;(focus (cbv;done));intro i hi;replace hi:0<=i/\i<=(a8.length:Int)/\upto (Dl a6 a7 a8 a9 aH) i:=hi;obtain⟨i0,i1,i2⟩:=hi;cbv)|(refine⟨[1,3,4,5],[1,4],Int,fun k=>[.reg 5 (.j k)],fun k=>0<=k/\k<=i/\upto (fun j=> !eqB (ag a8 j 0) (ag a8 i 0)) k,fun k=>(i-k).toNat,⟨0,?_,?_⟩,?_⟩;rotate_left;(focus (cbv;done));intro k hk;replace hk:0<=k/\k<=i/\upto (fun j=> !eqB (ag a8 j 0) (ag a8 i 0)) k:=hk;obtain⟨k0,k1,k2⟩:=hk;cbv)|(refine ab (O.ar .add .i64 k 1) ?_ ?_ ?_;focus (cbv;done))|(refine ab (O.ar .add .i64 i 1) ?_ ?_ ?_;focus (cbv;done))
 all_goals(subst hO hr hF;(try simp only[nc]at*);(try simp only[ah,SS,sa,az]at*);(try rw[di (by omega) (by omega)]);(try have z:=CF i0 (by omega));(try simp only[z,hsb]at*);(try simp only[Ro hlay,Rp hlay,Rq hlay]at*);(try have z6:bR .add .i64 k 1=k+1:=bE (by omega));(try simp only[z6]at*);(try have d1:=fun h=>Jc (sp:=a6) (lg:=a7) (a:=ag a8 i 1) h);(try have d3:=fun h=>Rm (sp:=a6) (lg:=a7) (a:=ag a8 i 1) h);(try have d4:=Zd (os:=a8) (i:=i) k2 (by omega) i0))
 all_goals first
  |(exfalso;omega)
  | (show(_:List DV)=_
     first
      |(refine ai ?_;symm;exact qe i0 (by assumption) (Si (by assumption) (by assumption)))
      |(refine ai ?_;symm;exact qe i0 (by assumption) (Sj (by assumption)))
      |(refine ai ?_;symm;exact qe i0 (by assumption) (Sk (by assumption)))
      |(refine ai ?_;symm;exact qe i0 (by assumption) (Sl (Vv k0 (by assumption) (by assumption) (by assumption))))
      |(refine ai ?_;symm;exact qe i0 (by assumption) (JU (Sn (by assumption))))
      |(refine ai ?_;symm;exact qe i0 (by assumption) (JU (Ze (by first|exact .inl (by assumption)|exact .inr (by assumption)|exact .inl (by omega)) (by first|exact .inl (by assumption)|exact .inr (by assumption)|exact .inl (by omega)))))
      |(refine ai ?_;symm;exact Nw i2 (by omega))
      |(have q:false=true:=(by assumption);cases q)
      |done)
  |omega
  |exact gp
  |(show aP _ _=true;kernel_rfl)
  |exact⟨hsw,hlw,hsl,hll,AL how rfl (by omega)⟩
  |exact bM
  |exact bj k2 (by show(!eqB _ _)=true;rw[CX (by assumption)];rfl)
  |exact bj i2 (P9 (by first|exact .inl (by omega)|exact .inr (by assumption)) (by assumption) (by assumption) (by assumption) (Sv (by assumption) (by assumption) (by assumption)))
  |exact bj i2 (P9 (by first|exact .inl (by omega)|exact .inr (by assumption)) (by assumption) (by assumption) (by assumption) (Sw (by assumption) (by assumption) (by assumption)))
  |(have q:false=true:=(by assumption);cases q)
  |done
end Go.V