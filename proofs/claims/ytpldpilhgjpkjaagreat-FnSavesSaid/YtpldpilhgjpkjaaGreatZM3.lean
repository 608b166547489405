/- Contracts. -/
import Derived.Test.YtpldpilhgjpkjaaGreatZM2
import Derived.Test.YtpldpilhgjpkjaaGreatZM1
set_option linter.all false
open Go
open And renaming intro->Zc
open IntKind renaming i64->Za
open List renaming length_take->Zg
noncomputable section
namespace Go.V
open Go Go.Proofs
set_option maxRecDepth 1000000
set_option maxHeartbeats 8000000
abbrev Ma0:di:=dH (fun F f=>match f with|33=>ap F|_=>fun _=>none) (by
 intro f;dsimp only;split;exact aw;exact dp)
def iU:EC:=fun F=>fun
 |[.one (.v (.int Za n)),.agg [.v (.int Za a),.v (.int Za l)]]=>some (fun _=>0<=n/\n<=1099511627776,[.k (F.rngIn n a l)])
 |_=>none
def pk:ec 165 iU:=by
 intro _ _ _ h hp;dsimp only[iU,F0]at h;split at h<;>cases h
 rename_i n a l;refine cb Ma0 Tryz.func165 ?_
 intro O r F hO hr hF;cbv
 repeat' first|apply Zc|(apply cN<;>intro hb<;>cbv)
 all_goals(subst hO hr hF;(try simp only[nc]at*);(try simp only[aj,SS,sa,az]at*);(try have t:=ay.1 hb);(try have z:bQ .sub Za n l=n-l:=eR Uc);(try simp only[z]at*))
 all_goals first|(show(_:List DV)=_;refine ax ?_;unfold rngIn;simp[hb];done)|done
abbrev Ma1:di:=dH (fun F f=>match f with|33=>ap F|165=>iU F|_=>fun _=>none) (by
 intro f;dsimp only;split;exact aw;exact pk;exact dp)
def fm:EC:=fun F=>fun
 |[.one (.v (.int Za n)),.one (.s 2 rs)]=>some (fun _=>0<=n/\n<=1099511627776/\Rw [tI,tI] rs/\rs.length<=1099511627776,[.k (F.rgOk n rs)])
 |_=>none
def ka:ec 61 fm:=by
 intro _ _ _ h hp;dsimp only[fm,F0]at h;split at h<;>cases h
 rename_i n rs;obtain⟨n0,n1,hw,hl⟩:=hp;refine cb Ma1 Tryz.func61 ?_
 intro O r F hO hr hF;cbv
 repeat' first|apply Zc|(apply cN<;>intro hb<;>cbv)|(refine⟨[0,1,7,8,9],[],Int,fun i=>[.reg 9 (.j i)],fun i=>0<=i/\i<=((rs.length:Nat):Int)/\upto (yw n rs) i,fun i=>(rs.length)-i.toNat,⟨0,?_,?_⟩,?_⟩;rotate_left;(focus (cbv;done));intro i hi;replace hi:0<=i/\i<=((rs.length:Nat):Int)/\upto (yw n rs) i:=hi;obtain⟨i0,i1,i2⟩:=hi;cbv)|(refine ah (O.ar .add Za i 1) ?_ ?_ ?_;focus (cbv;done))
 all_goals(subst hO hr hF;(try simp only[nc]at*);(try simp only[aj,SS,sa,az]at*);(try rw[db Uc Uc]);(try have z:=LZ i0 Uc);(try simp only[z]at*))
 all_goals first
  | (show(_:List DV)=_
     first
      |(refine ax ?_;symm;exact abb i0 Ud Ud)
      |(refine ax ?_;symm;exact abc i0 Ud Ud Ud)
      |(refine ax ?_;exact aba i2 Uc)
      |(have q:false=true:=Ud;cases q)
      |done)
  |omega
  |exact j4
  |(show bz _ _=true;kernel_rfl)
  |exact cr
  |exact bU i2 (OC Ud Uc)
  |exact bU i2 (OD Ud Ud)
  |done
def iH:EC:=fun F=>fun
 |[.agg [.v (.int Za a),.v (.int Za l)],.ptr [.v (.int Za p)]]=>some (fun _=>True,[.k (F.rh1 a l p)])
 |_=>none
def sk:ec 280 iH:=by
 intro _ _ _ h hp;dsimp only[iH,F0]at h;split at h<;>cases h
 rename_i a l p;refine cb nB Tryz.func280 ?_
 intro O r F hO hr hF;cbv
 repeat' first|apply Zc|(apply cN<;>intro hb<;>cbv)
 all_goals(subst hO hr hF;(try simp only[nc]at*);(try simp only[aj,SS,sa,az]at*))
 all_goals first|(show(_:List DV)=_;refine ax ?_;unfold rh1;rw[VL hb];rfl)|(show(_:List DV)=_;refine ax ?_;unfold rh1;rw[VM Uc];rfl)|done
abbrev Ma3:di:=dH (fun F f=>match f with|280=>iH F|_=>fun _=>none) (by
 intro f;dsimp only;split;exact sk;exact dp)
def bg:EC:=fun F=>fun
 |[.one (.s 2 os),.fn 280 [[.v (.int Za id)]]]=>some (fun _=>Rw [tI,tI] os/\os.length<=1099511627776,[.j (F.rhI os id)])
 |_=>none
def cA:ec 341 bg:=by
 intro _ _ _ h hp;dsimp only[bg,F0]at h;split at h<;>cases h
 rename_i os id;obtain⟨hw,hn⟩:=hp;refine cb Ma3 Tryz.func341 ?_
 intro O r F hO hr hF;cbv
 repeat' first|apply Zc|(apply cN<;>intro hb<;>cbv)|(refine⟨[0,1,7,8],[0],Int,fun i=>[.reg 8 (.j i)],fun i=>0<=i/\i<=((os.length:Nat):Int)/\upto (cY (Kq os id)) i,fun i=>(os.length)-i.toNat,⟨0,?_,?_⟩,?_⟩;rotate_left;(focus (cbv;done));intro i hi;replace hi:0<=i/\i<=((os.length:Nat):Int)/\upto (cY (Kq os id)) i:=hi;obtain⟨i0,i1,i2⟩:=hi;cbv)|(refine ah (O.ar .add Za i 1) ?_ ?_ ?_;focus (cbv;done))
 all_goals(subst hO hr hF;(try simp only[nc]at*);(try simp only[aj,SS,sa,az]at*);(try rw[db Uc Uc]))
 all_goals first
  | (show(_:List DV)=_
     first
      |exact cd (dU i2 i0 Ud (show Kq os id i=true from by assumption)).symm
      |exact cd (eQ i2 Ud).symm
      |done)
  |omega
  |exact j4
  |(show(lk _ _).isSome=true;kernel_rfl)
  |exact cr
  |exact bU i2 (gC (show Kq os id i=false from by assumption))
  |done
abbrev Ma4:di:=dH (fun F f=>match f with|341=>bg F|_=>fun _=>none) (by
 intro f;dsimp only;split;exact cA;exact dp)
def aW:EC:=fun F=>fun
 |[.one (.s 2 os),.fn 280 [[.v (.int Za id)]]]=>some (fun _=>Rw [tI,tI] os/\os.length<=1099511627776,[.k (F.rhB os id)])
 |_=>none
def cg:ec 279 aW:=by
 intro _ _ _ h hp;dsimp only[aW,F0]at h;split at h<;>cases h
 rename_i os id;refine cb Ma4 Tryz.func279 ?_
 intro O r F hO hr hF;cbv
 repeat' first|apply Zc|(apply cN<;>intro hb<;>cbv)
 all_goals(subst hO hr hF;(try simp only[nc]at*);(try simp only[aj,SS,sa,az]at*))
 all_goals first
  | (show(_:List DV)=_
     first
      |exact ax (o8 (by unfold rhB;simp only[SS,VN]))
      |done)
  |exact hp
  |done
abbrev Ma5:di:=dH (fun F f=>match f with|279=>aW F|_=>fun _=>none) (by
 intro f;dsimp only;split;exact cg;exact dp)
def kw:EC:=fun F=>fun
 |[.one (.s 2 os),.one (.v (.int Za id))]=>some (fun _=>Rw [tI,tI] os/\os.length<=1099511627776,[.k (F.rhB os id)])
 |_=>none
def vU:ec 171 kw:=by
 intro _ _ _ h hp;dsimp only[kw,F0]at h;split at h<;>cases h
 rename_i os id;refine cb Ma5 Tryz.func171 ?_
 exact zq5
abbrev Ma6:di:=dH (fun F f=>match f with|167=>eB F|_=>fun _=>none) (by
 intro f;dsimp only;split;exact gF;exact dp)
def fk:EC:=fun F=>fun
 |[.agg [.v (.int Za p1),.v (.int Za k1),.v (.int Za b1)],.agg [.v (.int Za p2),.v (.int Za k2),.v (.int Za b2)]]=>some (fun _=>True,[.k (F.mshB p1 k1 b1 p2 k2 b2)])
 |_=>none
def j9:ec 172 fk:=by
 intro _ _ _ h hp;dsimp only[fk,F0]at h;split at h<;>cases h
 rename_i p1 k1 b1 p2 k2 b2;refine cb Ma6 Tryz.func172 ?_
 intro O r F hO hr hF;cbv
 repeat' first|apply Zc|(apply cN<;>intro hb<;>cbv)
 all_goals(subst hO hr hF;(try simp only[nc]at*);(try simp only[aj,SS,sa,az]at*))
 all_goals first|(show(_:List DV)=_;refine ax ?_;unfold mshB;simp[*];done)|(show(_:List DV)=_;refine ax ?_;unfold mshB;subst_vars;rw[cmp_eq];simp[*];done)|done
abbrev Ma7:di:=dH (fun F f=>match f with|56=>cC F|_=>fun _=>none) (by
 intro f;dsimp only;split;exact dd;exact dp)
def gn:EC:=fun F=>fun
 |[.one (.s 3 qs)]=>some (fun _=>Rw [tI,tI,tI] qs/\qs.length<=1073741824,[.j (F.qcI qs)])
 |_=>none
def ng:ec 160 gn:=by
 intro _ _ _ h hp;dsimp only[gn,F0]at h;split at h<;>cases h
 rename_i qs;obtain⟨hw,hl⟩:=hp;refine cb Ma7 Tryz.func160 ?_
 intro O r F hO hr hF;cbv
 repeat' first|apply Zc|(apply cN<;>intro hb<;>cbv)|(refine⟨[3,6,7,8],[],Int×Int,fun s_=>match s_ with|(i,t)=>[.reg 8 (.j i),.reg 3 (.j t)],fun s_=>match s_ with|(i,t)=>0<=i/\i<=(qs.length:Int)/\RJ qs i t,fun s_=>match s_ with|(i,t)=>qs.length-i.toNat,⟨(0,0),?_,?_⟩,?_⟩;rotate_left;(focus (cbv;done));intro s_ hi;obtain⟨i,t⟩:=s_;replace hi:0<=i/\i<=(qs.length:Int)/\RJ qs i t:=hi;obtain⟨i0,i1,i2⟩:=hi;cbv)|(refine ah (O.ar .add Za i 1,O.ar .add Za t (F.clsSz (O.gi qs i 1))) ?_ ?_ ?_;focus (cbv;done))
 all_goals(subst hO hr hF;(try simp only[nc]at*);(try simp only[aj,SS,sa,az]at*);(try rw[db Uc Uc]))
 all_goals first|(show(_:List DV)=_;exact cd (aa1 i2 i1 Uc))|omega|exact j4|exact ajG|exact afn i2 i0 Uc|done
abbrev Ma8:di:=dH (fun F f=>match f with|157=>dA F|271=>kE F|_=>fun _=>none) (by
 intro f;dsimp only;split;exact eN;exact v6;exact dp)
def iW:EC:=fun F=>fun
 |[.one (.s 3 b),.agg [.v (.int Za a),.v (.int Za c),.v (.int Za s)]]=>some (fun _=>Rw [tI,tI,tI] b/\b.length<=1073741824,[.k (F.stlOk b a c s)])
 |_=>none
def po:ec 159 iW:=by
 intro _ _ _ h hp;dsimp only[iW,F0]at h;split at h<;>cases h
 rename_i b a c s;obtain⟨hw,hl⟩:=hp;have hs:bQ .sub Za (b.length:Int) 1=b.length-1:=eR Uc;refine cb Ma8 Tryz.func159 ?_
 intro O r F hO hr hF;cbv
 repeat' first|apply Zc|(apply cN<;>intro hb<;>cbv)
 all_goals(subst hO hr hF;(try simp only[nc]at*);(try simp only[aj,SS,sa,az]at*);(try simp only[hs]at*))
 all_goals first|exact j4|(show bz _ _=true;kernel_rfl)|exact⟨hw,Uc⟩|(show(_:List DV)=_;refine ax ?_;unfold stlOk;simp[*,du];done)|(show(_:List DV)=_;refine ax ?_;unfold stlOk;rw[VM (p:=0<=a) Uc];simp;done)|(show(_:List DV)=_;refine ax ?_;unfold stlOk;rw[VM (p:=0<=s) Uc];simp;done)|(show(_:List DV)=_;refine ax ?_;unfold stlOk;rw[VM (p:=b.length=0) Uc];simp[*,du];done)|(show(_:List DV)=_;refine ax ?_;unfold stlOk;simp_all;done)|done
abbrev Ma9:di:=dH (fun F f=>match f with|33=>ap F|159=>iW F|160=>gn F|_=>fun _=>none) (by
 intro f;dsimp only;split;exact aw;exact po;exact ng;exact dp)
def gI:EC:=fun F=>fun
 |[.agg [.v (.int Za rm),.s 3 qs]]=>some (fun _=>Rw [tI,tI,tI] qs/\qs.length<=1073741824,[.k (F.quarOk rm qs)])
 |_=>none
def mF:ec 65 gI:=by
 intro _ _ _ h hp;dsimp only[gI,F0]at h;split at h<;>cases h
 rename_i rm qs;obtain⟨hw,hl⟩:=hp;refine cb Ma9 Tryz.func65 ?_
 intro O r F hO hr hF;cbv
 repeat' first|apply Zc|(apply cN<;>intro hb<;>cbv)|(refine⟨[1,6,7,8],[1],Int,fun i=>[.reg 8 (.j i)],fun i=>0<=i/\i<=((qs.length:Nat):Int)/\upto (QJ qs) i,fun i=>(qs.length)-i.toNat,⟨0,?_,?_⟩,?_⟩;rotate_left;(focus (cbv;done));intro i hi;replace hi:0<=i/\i<=((qs.length:Nat):Int)/\upto (QJ qs) i:=hi;obtain⟨i0,i1,i2⟩:=hi;cbv)|(refine ah (O.ar .add Za i 1) ?_ ?_ ?_;focus (cbv;done))
 all_goals(subst hO hr hF;(try simp only[nc]at*);(try simp only[aj,SS,sa,az]at*);(try rw[db Uc Uc]);(try simp only[BW]at*))
 all_goals first
  | (show(_:List DV)=_
     first
      |(refine ax ?_;symm;exact afv i0 Ud Ud)
      |(refine ax ?_;rw[aa6 i2 Uc];simp[*,du];done)
      |done)
  |omega
  |exact j4
  |(show bz _ _=true;kernel_rfl)
  |exact⟨hw,hl⟩
  |exact⟨Rw.take hw _,by rw[Zg];omega⟩
  |exact cr
  |exact bU i2 Ud
  |done
def jQ:EC:=fun F=>fun
 |[.one (.v (.int Za c))]=>some (fun _=>True,[.k (F.inR c 0 15)])
 |_=>none
def qQ:ec 282 jQ:=by
 intro _ _ _ h hp;dsimp only[jQ,F0]at h;split at h<;>cases h
 rename_i c;refine cb Ma0 Tryz.func282 ?_
 exact zq1
def eC:EC:=fun F=>fun
 |[.one (.v (.int Za c))]=>some (fun _=>True,[.k (F.inR c 0 1073741823)])
 |_=>none
def gG:ec 69 eC:=by
 intro _ _ _ h hp;dsimp only[eC,F0]at h;split at h<;>cases h
 rename_i c;refine cb Ma0 Tryz.func69 ?_
 exact zq1
abbrev Mb1:di:=dH (fun F f=>match f with|33=>ap F|282=>jQ F|_=>fun _=>none) (by
 intro f;dsimp only;split;exact aw;exact qQ;exact dp)
def jP:EC:=fun F=>fun
 |[.agg [.v (.int Za k),.v (.int Za m),.s 1 cs]]=>some (fun _=>Rw [tI] cs/\cs.length<=1099511627776,[.k (F.plOk k m cs)])
 |_=>none
def qP:ec 178 jP:=by
 intro _ _ _ h hp;dsimp only[jP,F0]at h;split at h<;>cases h
 rename_i k m cs;obtain⟨hw,hl⟩:=hp;refine cb Mb1 Tryz.func178 ?_
 intro O r F hO hr hF;cbv
 repeat' first|apply Zc|(apply cN<;>intro hb<;>cbv)|(refine⟨[1,6,7,8],[1],Int,fun i=>[.reg 8 (.j i)],fun i=>0<=i/\i<=((cs.length:Nat):Int)/\upto (Lf cs) i,fun i=>(cs.length)-i.toNat,⟨0,?_,?_⟩,?_⟩;rotate_left;(focus (cbv;done));intro i hi;replace hi:0<=i/\i<=((cs.length:Nat):Int)/\upto (Lf cs) i:=hi;obtain⟨i0,i1,i2⟩:=hi;cbv)|(refine ah (O.ar .add Za i 1) ?_ ?_ ?_;focus (cbv;done))
 all_goals(subst hO hr hF;(try simp only[nc]at*);(try simp only[aj,SS,sa,az]at*);(try rw[db Uc Uc]);(try have z:=LZ i0 Uc);(try simp only[z]at*))
 all_goals first
  | (show(_:List DV)=_
     first
      |(refine ax ?_;symm;exact aaU i0 Ud Ud)
      |(refine ax ?_;symm;exact aaV i0 Ud Uc Ud)
      |(refine ax ?_;rw[Lg i2 Uc];simp[*,du];done)
      |(refine ax ?_;rw[Lg i2 Uc,JG];simp[*];done)
      |(have q:false=true:=Ud;cases q)
      |done)
  |omega
  |exact j4
  |exact cr
  |exact bU i2 (Oo Ud Uc)
  |exact bU i2 (Oq Ud Ud)
  |done
abbrev Mb2:di:=dH (fun F f=>match f with|178=>jP F|33=>ap F|_=>fun _=>none) (by
 intro f;dsimp only;split;exact qP;exact aw;exact dp)
def kO:EC:=fun F=>fun
 |[.agg [.v (.int Za k),.v (.int Za m),.s 1 cs,.v (.int Za ph),.v (.int Za nx)]]=>some (fun _=>Rw [tI] cs/\cs.length<=1099511627776,[.k (F.jbOk k m cs ph nx)])
 |_=>none
def rZ:ec 70 kO:=by
 intro _ _ _ h hp;dsimp only[kO,F0]at h;split at h<;>cases h
 rename_i k m cs ph nx;refine cb Mb2 Tryz.func70 ?_
 intro O r F hO hr hF;cbv
 repeat' first|apply Zc|(apply cN<;>intro hb<;>cbv)
 all_goals(subst hO hr hF;(try simp only[nc]at*);(try simp only[aj,SS,sa,az]at*))
 all_goals first|exact hp|(show(_:List DV)=_;refine ax ?_;unfold jbOk;simp[*];done)|done
abbrev Mb3:di:=dH (fun F f=>match f with|157=>dA F|33=>ap F|56=>cC F|_=>fun _=>none) (by
 intro f;dsimp only;split;exact eN;exact aw;exact dd;exact dp)
def fS:EC:=fun F=>fun
 |[.agg [.s 1 ls]]=>some (fun _=>RF ls,[.k (F.caOk ls)])
 |_=>none
def k7:ec 66 fS:=by
 intro _ _ _ h hp;dsimp only[fS,F0]at h;split at h<;>cases h
 rename_i ls;have hw:=hp.w;have hl:=hp.l;have hn:=hp.n;refine cb Mb3 Tryz.func66 ?_
 intro O r F hO hr hF;cbv
 repeat' first|apply Zc|(apply cN<;>intro hb<;>cbv)|(refine⟨[1,3,10,11,12],[1,8],Int×af,fun s_=>match s_ with|(i,es)=>[.reg 12 (.j i),.leaf 8 0 ⟨0,0,none,.own (.m true es)⟩],fun s_=>match s_ with|(i,es)=>0<=i/\i<=(ls.length:Int)/\Ev ls i es,fun s_=>match s_ with|(i,es)=>ls.length-i.toNat,⟨(0,[]),?_,?_⟩,?_⟩;rotate_left;(focus (cbv;done));intro s_ hi;obtain⟨i,es⟩:=s_;replace hi:0<=i/\i<=(ls.length:Int)/\Ev ls i es:=hi;obtain⟨i0,i1,i2⟩:=hi;cbv)|(refine⟨[1,3,4,10,11,12,25,26,27],[1,8],Int×af,fun s_=>match s_ with|(k,es1)=>[.reg 27 (.j k),.leaf 8 0 ⟨0,0,none,.own (.m true es1)⟩],fun s_=>match s_ with|(k,es1)=>0<=k/\k<=((aU ls i 0).length:Int)/\Ew ls i k es1,fun s_=>match s_ with|(k,es1)=>(aU ls i 0).length-k.toNat,⟨(0,es),?_,?_⟩,?_⟩;rotate_left;(focus (cbv;done));intro s_ hk;obtain⟨k,es1⟩:=s_;replace hk:0<=k/\k<=((aU ls i 0).length:Int)/\Ew ls i k es1:=hk;obtain⟨k0,k1,k2⟩:=hk;cbv)|(refine ah (O.ar .add Za k 1,O.mu es1 (O.gi (O.gs ls i 0) k 0) (.v (.bool true))) ?_ ?_ ?_;focus (cbv;done))|(refine ah (O.ar .add Za i 1,es1) ?_ ?_ ?_;focus (cbv;done))
 all_goals(subst hO hr hF;(try simp only[nc]at*);(try simp only[aj,SS,sa,az]at*);(try rw[db Uc Uc]);(try have z6:bQ .add Za k 1=k+1:=b8 (by have:=hn i;omega));(try simp only[z6]at*);(try have w2:=hp.el i0 Uc);(try have w3:=w2.1);(try have w4:=k2.p.l))
 all_goals first
  | (show(_:List DV)=_
     first
      |(refine ax ?_;exact R3 i2.p i1 Uc)
      |(refine ax ?_;symm;exact NB i2 i0 Uc Ud)
      |(refine ax ?_;symm;exact NC i2 i0 Ud Ud)
      |(refine ax ?_;symm;exact Jx i0 Uc k0 Ud (acb Ud))
      |(refine ax ?_;symm;exact Jx i0 Uc k0 Ud (acd Ud))
      |(refine ax ?_;symm;exact ND k2 i0 k0 Ud Ud)
      |done)
  |omega
  |exact j4
  |(have c:=(nk (ay.2 (by omega:0<=i/\i<=3))).1;omega)
  |exact Tv k2 k0 Ud Ud Ud
  |exact Tu k2 i0 k1 Uc
  |exact adu i2 i0 Ud Uc
  |exact adt
  |done
def kF:EC:=fun F=>fun
 |[.agg [.v (.int Za d0),.v (.int Za d1),.v (.int Za d2),.v (.int Za d3)],.ptr [.v (.int Za e0),.v (.int Za e1),.v (.int Za e2),.v (.int Za e3)]]=>some (fun _=>True,[.k (F.eqB d0 e0)])
 |_=>none
def v8:ec 174 kF:=by
 intro _ _ _ h hp;dsimp only[kF,F0]at h;split at h<;>cases h
 rename_i d0 d1 d2 d3 e0 e1 e2 e3;refine cb nB Tryz.func174 ?_
 exact zq3
abbrev Na1:di:=dH (fun F f=>match f with|174=>kF F|_=>fun _=>none) (by
 intro f;dsimp only;split;exact v8;exact dp)
def bA:EC:=fun F=>fun
 |[.one (.s 4 os),.fn 174 [[.v (.int Za e0),.v (.int Za e1),.v (.int Za e2),.v (.int Za e3)]]]=>some (fun _=>Rw [tI,tI,tI,tI] os/\os.length<=1099511627776,[.j (F.oiI os e0)])
 |_=>none
def cF:ec 151 bA:=by
 intro _ _ _ h hp;dsimp only[bA,F0]at h;split at h<;>cases h
 rename_i os e0 e1 e2 e3;obtain⟨hw,hn⟩:=hp;refine cb Na1 Tryz.func151 ?_
 intro O r F hO hr hF;cbv
 repeat' first|apply Zc|(apply cN<;>intro hb<;>cbv)|(refine⟨[0,1,7,8],[0],Int,fun i=>[.reg 8 (.j i)],fun i=>0<=i/\i<=((os.length:Nat):Int)/\upto (cY (Kp os e0)) i,fun i=>(os.length)-i.toNat,⟨0,?_,?_⟩,?_⟩;rotate_left;(focus (cbv;done));intro i hi;replace hi:0<=i/\i<=((os.length:Nat):Int)/\upto (cY (Kp os e0)) i:=hi;obtain⟨i0,i1,i2⟩:=hi;cbv)|(refine ah (O.ar .add Za i 1) ?_ ?_ ?_;focus (cbv;done))
 all_goals(subst hO hr hF;(try simp only[nc]at*);(try simp only[aj,SS,sa,az]at*);(try rw[db Uc Uc]))
 all_goals first
  | (show(_:List DV)=_
     first
      |exact cd (dU i2 i0 Ud (show Kp os e0 i=true from by assumption)).symm
      |exact cd (eQ i2 Ud).symm
      |done)
  |omega
  |exact j4
  |(show(lk _ _).isSome=true;kernel_rfl)
  |exact cr
  |exact bU i2 (gC (show Kp os e0 i=false from by assumption))
  |done
abbrev Na2:di:=dH (fun F f=>match f with|151=>bA F|_=>fun _=>none) (by
 intro f;dsimp only;split;exact cF;exact dp)
def aY:EC:=fun F=>fun
 |[.one (.s 4 os),.fn 174 [[.v (.int Za e0),.v (.int Za e1),.v (.int Za e2),.v (.int Za e3)]]]=>some (fun _=>Rw [tI,tI,tI,tI] os/\os.length<=1099511627776,[.k (F.oiB os e0)])
 |_=>none
def cu:ec 173 aY:=by
 intro _ _ _ h hp;dsimp only[aY,F0]at h;split at h<;>cases h
 rename_i os e0 e1 e2 e3;refine cb Na2 Tryz.func173 ?_
 intro O r F hO hr hF;cbv
 repeat' first|apply Zc|(apply cN<;>intro hb<;>cbv)
 all_goals(subst hO hr hF;(try simp only[nc]at*);(try simp only[aj,SS,sa,az]at*))
 all_goals first
  | (show(_:List DV)=_
     first
      |exact ax (o8 (by unfold oiB;simp only[SS,VN]))
      |done)
  |exact hp
  |done
abbrev Na3:di:=dH (fun F f=>match f with|33=>ap F|173=>aY F|162=>dS F|38=>eO F|_=>fun _=>none) (by
 intro f;dsimp only;split;exact aw;exact cu;exact fP;exact ir;exact dp)
def mL:EC:=fun F=>fun
 |[.agg hl_]=>hL hl_ fun a0 a1 a2 a3 a4 a5 a6 a7 a8 a9 aA aB aC aD aE aF aG aH aI aJ aK aL aM aN=>(fun _=>NsH a6 a7 a8 a9 aA aB aD/\layOk a6 a7=true,[.k (F.objOk a6 a7 a8 a9 aH)])
 |_=>none
def zD:ec 67 mL:=by
 intro _ _ _ h hp;dsimp only[mL,F0,hL]at h;split at h;rotate_left;cases h;split at h<;>cases h
 rename_i a0 a1 a2 a3 a4 a5 a6 a7 a8 a9 aA aB aC aD aE aF aG aH aI aJ aK aL aM aN;obtain⟨N,hlay⟩:=hp;have how:=N.ow;have hol:=N.ol;have hsw:=N.sw;have hlw:=N.lw;have hsl:=N.sl;have hll:=N.ll;have hcl:=N.cl;have hlc:=aS (es:=a9);have hsb:bQ .sub Za (a9.length:Int) 1=a9.length-1:=eR Uc;refine cb Na3 Tryz.func67 ?_
 intro O r F hO hr hF;cbv
 repeat' first|apply Zc|(apply cN<;>intro hb<;>cbv)|(refine⟨[1,9,10,11],[1],Int,fun i=>[.reg 11 (.j i)],fun i=>0<=i/\i<=((a8.length:Nat):Int)/\upto (BB a6 a7 a8 a9 aH) i,fun i=>(a8.length)-i.toNat,⟨0,?_,?_⟩,?_⟩;rotate_left;(focus (cbv;done));intro i hi;replace hi:0<=i/\i<=((a8.length:Nat):Int)/\upto (BB a6 a7 a8 a9 aH) i:=hi;obtain⟨i0,i1,i2⟩:=hi;cbv)|(refine ah (O.ar .add Za i 1) ?_ ?_ ?_;focus (cbv;done))
 all_goals(subst hO hr hF;(try simp only[nc]at*);(try simp only[aj,SS,sa,az]at*);(try rw[db Uc Uc]);(try have z:=LZ i0 Uc);(try simp only[z,hsb,BW]at*);(try have d1:=fun h=>JK (sp:=a6) (lg:=a7) (a:=ag a8 i 1) h);(try have d3:=fun h=>PL (sp:=a6) (lg:=a7) (a:=ag a8 i 1) h))
 all_goals first
  |(exfalso;omega)
  | (show(_:List DV)=_
     first
      |(refine ax ?_;symm;exact AC i0 Ud (aeO Ud Ud))
      |(refine ax ?_;symm;exact AC i0 Ud (aeP Ud))
      |(refine ax ?_;symm;exact AC i0 Ud (aeQ Ud))
      |(refine ax ?_;symm;exact AC i0 Ud (aeR Ud))
      |(refine ax ?_;symm;exact AC i0 Ud (Qw (aeW Ud)))
      |(refine ax ?_;symm;exact AC i0 Ud (Qw (ajx (by first|exact .inl Ud|exact .inr Ud|exact .inl Uc) (by first|exact .inl Ud|exact .inr Ud|exact .inl Uc))))
      |(refine ax ?_;symm;exact aaN i2 Uc)
      |(have q:false=true:=Ud;cases q)
      |done)
  |omega
  |exact j4
  |(show bz _ _=true;kernel_rfl)
  |exact⟨hsw,hlw⟩
  |exact⟨Rw.take how _,by rw[Zg];omega⟩
  |exact cr
  |exact bU i2 (aeS (by first|exact .inl Uc|exact .inr Ud) Ud Ud Ud (aeX Ud Ud Ud))
  |exact bU i2 (aeS (by first|exact .inl Uc|exact .inr Ud) Ud Ud Ud (aeY Ud Ud Ud))
  |(have q:false=true:=Ud;cases q)
  |done
abbrev Oa1:di:=dH (fun F f=>match f with|162=>dS F|_=>fun _=>none) (by
 intro f;dsimp only;split;exact fP;exact dp)
def hD:EP:=fun F=>fun
 |[.one (.v (.int Za ad)),.one (.v (.int Za k)),.mp [.own (.m false es)],.mp [.ro (.s 1 a0),.ro (.s 1 a1),.ro (.s 2 a2),.own (.v (.int Za a3)),.ro (.s 1 a4),.ro (.s 2 a5),.ro (.s 3 a6),.ro (.s 3 a7),.ro (.s 4 a8),.ro (.s 1 a9),.ro (.s 1 aA),.ro (.s 1 aB),.own (.v (.int Za aC)),.ro (.s 3 aD),.own (.v (.int Za aE)),.own (.v (.int Za aF)),.own (.v (.int Za aG)),.own (.v (.int Za aH)),.own (.v (.bool aI)),.own (.v (.int Za aJ)),.own (.v (.int Za aK)),.ro (.s 1 aL),.own (.v (.int Za aM)),.own (.v (.int Za aN))]]=>some (fun _=>Rw [tI,tI,tI] a6/\Rw [tI,tI,tI] a7,[[.own (.m false (F.huI es ad))],[.ro (.s 1 a0),.ro (.s 1 a1),.ro (.s 2 a2),.own (.i a3),.ro (.s 1 a4),.ro (.s 2 a5),.ro (.s 3 a6),.ro (.s 3 a7),.ro (.s 4 a8),.ro (.s 1 a9),.ro (.s 1 aA),.ro (.s 1 aB),.own (.i aC),.ro (.s 3 aD),.own (.i aE),.own (.i aF),.own (.i aG),.own (.i aH),.own (.v (.bool aI)),.own (.i aJ),.own (.i aK),.ro (.s 1 aL),.own (.i aM),.own (.i aN)]],[.k (F.hlB a6 a7 ad k)])
 |_=>none
def rq:ep 175 hD:=by
 intro _ _ _ _ h hp;dsimp only[hD,F0]at h;split at h<;>cases h
 rename_i ad k es a0 a1 a2 a3 a4 a5 a6 a7 a8 a9 aA aB aC aD aE aF aG aH aI aJ aK aL aM aN;obtain⟨hsw,hlw⟩:=hp;refine pb Oa1 Tryz.func175 ?_
 intro O r os F hO hr hos hF;cbv
 repeat' first|apply Zc|(apply cN<;>intro hb<;>cbv)
 all_goals((try subst hos);subst hO hr hF;(try simp only[nc]at*);(try simp only[aj,SS,sa,az]at*);(try have d1:=fun h=>JK (sp:=a6) (lg:=a7) (a:=ad) h))
 all_goals first|(show(_:List DV)=_;refine ax ?_;unfold hlB;simp[*];done)|(show(_:List DV)=_;refine ax ?_;unfold hlB;rw[VM (p:=k<0) Uc,cmp_eq];simp[*];done)|(show(_:List H)=_;exact rfl)|exact⟨hsw,hlw⟩|(have e:=d1 Ud;exact j4)|done
abbrev Oa2:di:={
 Φ:=tH
 F0:=F0
 ct:=fun F f=>match f with|176=>kn F|177=>jt F|_=>fun _=>none
 hc:=(by
  intro f;dsimp only;split;exact vQ;exact tW;exact dp)
 pt:=fun F f=>match f with|175=>some (hD F)|_=>none
 hp:=(by
  intro f mk h;dsimp only at h;split at h<;>cases h
  exact rq)}
def jD:EC:=fun F=>fun
 |[.agg hl_]=>hL hl_ fun a0 a1 a2 a3 a4 a5 a6 a7 a8 a9 aA aB aC aD aE aF aG aH aI aJ aK aL aM aN=>(fun _=>NsH a6 a7 a8 a9 aA aB aD/\layOk a6 a7=true,[.k (F.hoI a6 a7 a8 a9 aA aB aD aF)])
 |_=>none
def uc:ec 68 jD:=by
 intro _ _ _ h hp;dsimp only[jD,F0,hL]at h;split at h;rotate_left;cases h;split at h<;>cases h
 rename_i a0 a1 a2 a3 a4 a5 a6 a7 a8 a9 aA aB aC aD aE aF aG aH aI aJ aK aL aM aN;obtain⟨N,hlay⟩:=hp;have hsw:=N.sw;have hlw:=N.lw;have hsl:=N.sl;have hll:=N.ll;have how:=N.ow;have hol:=N.ol;have hcw:=N.cw;have hcl:=N.cl;have hqw:=N.qw;have hql:=N.ql;have hcc:=N.c;have hlc:=aS (es:=a9);have hfr:=adw N.m;have hfl:=Tw (b:=aA) (x:=aB);have hlr:=adZ (sp:=a6) (lg:=a7);have hla:=Kx (sp:=a6) (lg:=a7);refine cb Oa2 Tryz.func68 ?_
 intro O r F hO hr hF;cbv
 repeat' first|apply Zc|(apply cN<;>intro hb<;>cbv)|(refine⟨[1,3,4,22,23,24],[1,3],Int×af,fun s_=>match s_ with|(i,es)=>[.reg 24 (.j i),.leaf 3 0 ⟨0,0,none,.own (.m false es)⟩],fun s_=>match s_ with|(i,es)=>0<=i/\i<=(a9.length:Int)/\HiP a6 a7 a9 i es,fun s_=>match s_ with|(i,es)=>a9.length-i.toNat,⟨(0,[]),?_,?_⟩,?_⟩;rotate_left;(focus (cbv;done));intro s_ hi;obtain⟨i,es⟩:=s_;replace hi:0<=i/\i<=(a9.length:Int)/\HiP a6 a7 a9 i es:=hi;obtain⟨i0,i1,i2⟩:=hi;cbv)|(refine⟨[1,3,4,22,23,24,29,30,31],[1,3],Int×af,fun s_=>match s_ with|(k,es1)=>[.reg 31 (.j k),.leaf 3 0 ⟨0,0,none,.own (.m false es1)⟩],fun s_=>match s_ with|(k,es1)=>0<=k/\k<=((aU a9 i 0).length:Int)/\HkP a6 a7 a9 i k es1,fun s_=>match s_ with|(k,es1)=>(aU a9 i 0).length-k.toNat,⟨(0,es),?_,?_⟩,?_⟩;rotate_left;(focus (cbv;done));intro s_ hk;obtain⟨k,es1⟩:=s_;replace hk:0<=k/\k<=((aU a9 i 0).length:Int)/\HkP a6 a7 a9 i k es1:=hk;obtain⟨k0,k1,k2⟩:=hk;cbv)|(refine⟨[1,3,4,7,22,23,24,29,30,31,36,37,38],[1,3],Int×af,fun s_=>match s_ with|(j,es2)=>[.reg 38 (.j j),.leaf 3 0 ⟨0,0,none,.own (.m false es2)⟩],fun s_=>match s_ with|(j,es2)=>0<=j/\j<=((aU (aU a9 i 0) k 0).length:Int)/\HjP a6 a7 a9 i k j es2,fun s_=>match s_ with|(j,es2)=>(aU (aU a9 i 0) k 0).length-j.toNat,⟨(0,es1),?_,?_⟩,?_⟩;rotate_left;(focus (cbv;done));intro s_ hj;obtain⟨j,es2⟩:=s_;replace hj:0<=j/\j<=((aU (aU a9 i 0) k 0).length:Int)/\HjP a6 a7 a9 i k j es2:=hj;obtain⟨j0,j1,j2⟩:=hj;cbv)|(refine⟨[1,3,4,52,53,54],[1,3],Int×af,fun s_=>match s_ with|(q,es3)=>[.reg 54 (.j q),.leaf 3 0 ⟨0,0,none,.own (.m false es3)⟩],fun s_=>match s_ with|(q,es3)=>0<=q/\q<=(aD.length:Int)/\HqP a6 a7 a9 aD aF q es3,fun s_=>match s_ with|(q,es3)=>aD.length-q.toNat,⟨(0,es),?_,?_⟩,?_⟩;rotate_left;(focus (cbv;done));intro s_ hq;obtain⟨q,es3⟩:=s_;replace hq:0<=q/\q<=(aD.length:Int)/\HqP a6 a7 a9 aD aF q es3:=hq;obtain⟨q0,q1,q2⟩:=hq;cbv)|(refine⟨[1,3,4,75,76,77],[1,3,75],Int×af,fun s_=>match s_ with|(f,es4)=>[.reg 77 (.j f),.leaf 3 0 ⟨0,0,none,.own (.m false es4)⟩],fun s_=>match s_ with|(f,es4)=>0<=f/\f<=((ifL aA aB).length:Int)/\HfP a6 a7 a9 aD (ifL aA aB) aF f es4,fun s_=>match s_ with|(f,es4)=>(ifL aA aB).length-f.toNat,⟨(0,es3),?_,?_⟩,?_⟩;rotate_left;(focus (cbv;done));intro s_ hf;obtain⟨f,es4⟩:=s_;replace hf:0<=f/\f<=((ifL aA aB).length:Int)/\HfP a6 a7 a9 aD (ifL aA aB) aF f es4:=hf;obtain⟨f0,f1,f2⟩:=hf;cbv)|(refine⟨[1,3,87,88,89],[1,3],Int×af,fun s_=>match s_ with|(p,es5)=>[.reg 89 (.j p),.leaf 3 0 ⟨0,0,none,.own (.m false es5)⟩],fun s_=>match s_ with|(p,es5)=>0<=p/\p<=(a8.length:Int)/\Rx a6 a7 a8 a9 aD (ifL aA aB) aF p es5,fun s_=>match s_ with|(p,es5)=>a8.length-p.toNat,⟨(0,es4),?_,?_⟩,?_⟩;rotate_left;(focus (cbv;done));intro s_ hp;obtain⟨p,es5⟩:=s_;replace hp:0<=p/\p<=(a8.length:Int)/\Rx a6 a7 a8 a9 aD (ifL aA aB) aF p es5:=hp;obtain⟨p0,p1,p2⟩:=hp;cbv)|(refine⟨[3,103,104,105],[3,103],Int×af,fun s_=>match s_ with|(t,es6)=>[.reg 105 (.j t),.leaf 3 0 ⟨0,0,none,.own (.m false es6)⟩],fun s_=>match s_ with|(t,es6)=>0<=t/\t<=((iaL a6 a7).length:Int)/\Pj a6 a7 a8 a9 aD (ifL aA aB) aF t es6,fun s_=>match s_ with|(t,es6)=>(iaL a6 a7).length-t.toNat,⟨(0,es5),?_,?_⟩,?_⟩;rotate_left;(focus (cbv;done));intro s_ ht;obtain⟨t,es6⟩:=s_;replace ht:0<=t/\t<=((iaL a6 a7).length:Int)/\Pj a6 a7 a8 a9 aD (ifL aA aB) aF t es6:=ht;obtain⟨t0,t1,t2⟩:=ht;cbv)|(refine ah (O.ar .add Za j 1,F.huI es2 (O.gi (O.gs (O.gs a9 i 0) k 0) j 0)) ?_ ?_ ?_;focus (cbv;done))|(refine ah (O.ar .add Za k 1,es2) ?_ ?_ ?_;focus (cbv;done))|(refine ah (O.ar .add Za i 1,es1) ?_ ?_ ?_;focus (cbv;done))|(refine ah (O.ar .add Za t 1,es6) ?_ ?_ ?_;focus (cbv;done))|(refine ah (O.ar .add Za p 1,O.mu es5 (O.gi a8 p 1) (.i (O.ar .add Za (O.mgi es5 (O.gi a8 p 1)) 1))) ?_ ?_ ?_;focus (cbv;done))|(refine ah (O.ar .add Za f 1,F.huI es4 (O.pi (.s 1 (F.ifL aA aB)) [(O.ad 0 f,0)])) ?_ ?_ ?_;focus (cbv;done))|(refine ah (O.ar .add Za q 1,F.huI es3 (O.gi aD q 0)) ?_ ?_ ?_;focus (cbv;done))
 all_goals(subst hO hr hF;(try simp only[nc]at*);(try simp only[aj,SS,sa,az]at*);(try rw[db Uc Uc]);(try simp only[pP f0]at*);(try simp only[pP t0,NX]at*);(try have z8:bQ .add Za t 1=t+1:=b8 Uc);(try simp only[z8]at*);(try have w6:=hcc.n i i0 Ud);(try have w7:=w6.el k0 Ud);(try have w8:=w7.1);(try have z6:bQ .add Za k 1=k+1:=b8 (by have:=w6.l;omega));(try simp only[z6]at*);(try have z7:bQ .add Za j 1=j+1:=b8 (by have:=w7.2;omega));(try simp only[z7]at*))
 all_goals first
  | (show(_:List DV)=_
     first
      |(refine ax ?_;symm;exact Ti i0 Ud (aig k0 Ud j0 Ud Ud))
      |(refine ax ?_;symm;exact Kc q0 Ud (afy Ud))
      |(refine ax ?_;symm;exact Kc q0 Ud (afz Ud))
      |(refine ax ?_;symm;exact Tj f0 Ud Ud)
      |(refine ax ?_;symm;exact ahU t2 t0 Ud Ud)
      |(refine ax ?_;symm;exact Te t2 Uc)
      |done)
  |omega
  |exact j4
  |exact⟨hsw,hlw⟩
  |exact⟨hsw,hlw,hsl,hll⟩
  |exact N.m
  |exact Qy hfr f0 Ud
  |exact Qy hlr t0 Ud
  |exact adf j2 i0 Ud k0 Ud j0 Ud hcl Ud
  |exact adg j2 k0 j1 Uc
  |exact ade k2 i0 k1 Uc
  |exact ahR k2
  |exact ahS i2
  |exact ahQ
  |exact aic i2 i1 Uc
  |exact adn q2 q0 Ud hcl hql (ajM Ud Uc)
  |exact ahP q2 q1 Uc
  |exact ac6 f2 f0 Ud hcl hql hfl Ud
  |exact ahX f2 f1 Uc
  |exact adk p2 p0 Ud hcl hql hol hfl
  |exact ahT p2 p1 Uc
  |exact adi t2 Ud
  |done
abbrev Pa0:di:=dH (fun F f=>match f with|54=>cD F|_=>fun _=>none) (by
 intro f;dsimp only;split;exact de;exact dp)
def dN:EC:=fun F=>fun
 |[.agg [.s 1 a0,.s 1 a1,.s 2 a2,.v (.int Za a3),.s 1 a4],.one (.v (.int Za p))]=>some (fun _=>Rw [tI,tI] a2,[.k (F.mapB a2 p)])
 |_=>none
def fy:ec 170 dN:=by
 intro _ _ _ h hp;dsimp only[dN,F0]at h;split at h<;>cases h
 rename_i a0 a1 a2 a3 a4 p;refine cb Pa0 Tryz.func170 ?_
 intro O r F hO hr hF;cbv
 repeat' first|apply Zc|(apply cN<;>intro hb<;>cbv)
 all_goals(subst hO hr hF;(try simp only[nc]at*);(try simp only[aj,SS,sa,az]at*))
 all_goals first|(show(_:List DV)=_;refine ax ?_;unfold mapB;rw[JG];done)|exact hp|done
abbrev Pa1:di:=dH (fun F f=>match f with|169=>d6 F|170=>dN F|171=>kw F|54=>cD F|172=>fk F|_=>fun _=>none) (by
 intro f;dsimp only;split;exact iu;exact fy;exact vU;exact de;exact j9;exact dp)
def lJ:EC:=fun F=>fun
 |[.agg hl_]=>hL hl_ fun a0 a1 a2 a3 a4 a5 a6 a7 a8 a9 aA aB aC aD aE aF aG aH aI aJ aK aL aM aN=>(fun _=>NsH a6 a7 a8 a9 aA aB aD/\layOk a6 a7=true/\Rw [tI,tI] a2/\a2.length<=1099511627776/\Rw [tI,tI] a5/\a5.length<=1099511627776,[.k (F.pgI a2 a5 a6 a7)])
 |_=>none
def xv:ec 63 lJ:=by
 intro _ _ _ h hp;dsimp only[lJ,F0,hL]at h;split at h;rotate_left;cases h;split at h<;>cases h
 rename_i a0 a1 a2 a3 a4 a5 a6 a7 a8 a9 aA aB aC aD aE aF aG aH aI aJ aK aL aM aN;obtain⟨N,hlay,hew,hel,hfw,hfl⟩:=hp;have hsw:=N.sw;have hlw:=N.lw;have hsl:=N.sl;have hll:=N.ll;have F:=Qm hlay;have lgF:∀ j:Int,0<=j->j<a7.length->0<=ag a7 j 0/\1<=ag a7 j 1/\ag a7 j 0+ag a7 j 1<=32:=fun j h0 h1=>by
  have t:=oh (F.l j.toNat Uc);rw[Int.toNat_of_nonneg h0]at t;have b:=qL t.1;omega
 refine cb Pa1 Tryz.func63 ?_
 intro O r F hO hr hF;cbv
 repeat' first|apply Zc|(apply cN<;>intro hb<;>cbv)|(refine⟨[1,18,19,20],[1],Int,fun i=>[.reg 20 (.j i)],fun i=>0<=i/\i<=(a6.length:Int)/\upto (Cu a6) i,fun i=>a6.length-i.toNat,⟨0,?_,?_⟩,?_⟩;rotate_left;(focus (cbv;done));intro i hi;replace hi:0<=i/\i<=(a6.length:Int)/\upto (Cu a6) i:=hi;obtain⟨i0,i1,i2⟩:=hi;cbv)|(refine⟨[1,5,42,43,44],[1,40],Int×af,fun s_=>match s_ with|(q,m)=>[.reg 44 (.j q),.leaf 40 0 ⟨0,0,none,.own (.m true m)⟩],fun s_=>match s_ with|(q,m)=>0<=q/\q<=(a6.length:Int)/\wU m (nN a6 q.toNat),fun s_=>match s_ with|(q,m)=>a6.length-q.toNat,⟨(0,[]),?_,?_⟩,?_⟩;rotate_left;(focus (cbv;done));intro s_ hq;obtain⟨q,m⟩:=s_;replace hq:0<=q/\q<=(a6.length:Int)/\wU m (nN a6 q.toNat):=hq;obtain⟨q0,q1,q2⟩:=hq;cbv)|(refine⟨[1,5,53,54,55],[1,40],Int×af,fun s_=>match s_ with|(j,m1)=>[.reg 55 (.j j),.leaf 40 0 ⟨0,0,none,.own (.m true m1)⟩],fun s_=>match s_ with|(j,m1)=>0<=j/\j<=(a7.length:Int)/\PlP a2 a6 a7 j m1,fun s_=>match s_ with|(j,m1)=>a7.length-j.toNat,⟨(0,m),?_,?_⟩,?_⟩;rotate_left;(focus (cbv;done));intro s_ hj;obtain⟨j,m1⟩:=s_;replace hj:0<=j/\j<=(a7.length:Int)/\PlP a2 a6 a7 j m1:=hj;obtain⟨j0,j1,j2⟩:=hj;cbv)|(refine⟨[1,5,9,10,53,54,55],[1,40,9],Int×af,fun s_=>match s_ with|(p,m2)=>[.reg 10 (.j p),.leaf 40 0 ⟨0,0,none,.own (.m true m2)⟩],fun s_=>match s_ with|(p,m2)=>ag a7 j 0<=p/\p<=ag a7 j 0+ag a7 j 1/\PkP a2 a6 a7 j (p-ag a7 j 0) m2,fun s_=>match s_ with|(p,m2)=>(ag a7 j 0+ag a7 j 1-p).toNat,⟨(O.gi a7 j 0,m1),?_,?_⟩,?_⟩;rotate_left;(focus (cbv;done));intro s_ hp;obtain⟨p,m2⟩:=s_;replace hp:ag a7 j 0<=p/\p<=ag a7 j 0+ag a7 j 1/\PkP a2 a6 a7 j (p-ag a7 j 0) m2:=hp;obtain⟨p0,p1,p2⟩:=hp;cbv)|(refine⟨[1,5,98,99],[1,40],Int,fun e=>[.reg 99 (.j e)],fun e=>0<=e/\e<=(a2.length:Int)/\upto (I0 a2 a5 a6 a7) e,fun e=>a2.length-e.toNat,⟨0,?_,?_⟩,?_⟩;rotate_left;(focus (cbv;done));intro e he;replace he:0<=e/\e<=(a2.length:Int)/\upto (I0 a2 a5 a6 a7) e:=he;obtain⟨e0,e1,e2⟩:=he;cbv)|(refine⟨[1,122],[1],List Int,fun vs=>[.reg 122 (.one (.it m1 vs))],fun vs=>True/\∀ k∈vs,k<(a2.length:Int),fun vs=>m1.length-vs.length,⟨[],?_,?_⟩,?_⟩;rotate_left;(focus (cbv;done));intro vs wd;replace wd:True/\∀ k∈vs,k<(a2.length:Int):=wd;obtain⟨vs0,vs1⟩:=wd;cbv)|(refine⟨[1,136,137,138],[1],Int,fun u=>[.reg 138 (.j u)],fun u=>0<=u/\u<=(a6.length:Int)/\upto (My a2 a6) u,fun u=>a6.length-u.toNat,⟨0,?_,?_⟩,?_⟩;rotate_left;(focus (cbv;done));intro u hu;replace hu:0<=u/\u<=(a6.length:Int)/\upto (My a2 a6) u:=hu;obtain⟨u0,u1,u2⟩:=hu;cbv)|(refine⟨[1,14,136,137,138,146,147,148],[1,14],Int,fun v=>[.reg 148 (.j v)],fun v=>0<=v/\v<=u/\upto (Mx a2 a6 u) v,fun v=>(u-v).toNat,⟨0,?_,?_⟩,?_⟩;rotate_left;(focus (cbv;done));intro v hv;replace hv:0<=v/\v<=u/\upto (Mx a2 a6 u) v:=hv;obtain⟨v0,v1,v2⟩:=hv;cbv)|(refine ah (O.ar .add Za p 1,O.mu m2 p (.v (.bool true))) ?_ ?_ ?_;focus (cbv;done))|(refine ah (O.ar .add Za j 1,m2) ?_ ?_ ?_;focus (cbv;done))|(refine ah (O.ar .add Za q 1,O.mu m (O.gi a6 q 0) (.v (.bool true))) ?_ ?_ ?_;focus (cbv;done))|(refine ah (O.ar .add Za v 1) ?_ ?_ ?_;focus (cbv;done))|(refine ah (O.ar .add Za u 1) ?_ ?_ ?_;focus (cbv;done))|(refine ah (O.ar .add Za e 1) ?_ ?_ ?_;focus (cbv;done))|(refine ah (O.ar .add Za i 1) ?_ ?_ ?_;focus (cbv;done))|(refine ah (kk::vs) ?_ ?_ ?_;focus (cbv;done))|((intro(kk:Int) (hkk:O.pr _);cbv))|((intro(hkk:O.pr _);cbv))
 all_goals(subst hO hr hF;(try simp only[nc]at*);(try simp only[aj,SS,sa,az]at*);(try rw[db Uc Uc]);(try have zi:=LZ i0 Uc);(try simp only[zi]at*);(try have zj:=LZ j0 Uc);(try simp only[zj]at*);(try have lf:=lgF j j0 Ud);(try have zl:bQ .add Za (ag a7 j 0) (ag a7 j 1)=ag a7 j 0+ag a7 j 1:=b8 Uc);(try simp only[zl]at*);(try have zp:bQ .add Za p 1=p+1:=b8 Uc);(try simp only[zp]at*);(try have zv:bQ .add Za v 1=v+1:=b8 Uc);(try simp only[zv]at*);(try simp only[ae3 (aaW j2 j1 Ud)]at*);(try simp only[BW]at*);(try have tl:(List.take u.toNat a6).length=u.toNat:=by(rw[Zg];omega));(try have hwt:=Rw.take hsw u.toNat);(try simp only[Nw (es:=a6) (n:=u.toNat) (i:=v) Uc]at*))
 all_goals first
  | (show(_:List DV)=_
     first
      |(refine ax ?_;symm;exact afa i0 Ud (QW Ud Ud))
      |(refine ax ?_;symm;exact QA j0 Ud (ad0 (QW Ud Ud)))
      |(refine ax ?_;symm;exact QA j0 Ud (afe p0 Ud Uc))
      |(refine ax ?_;symm;exact QB e0 Ud (acC Ud))
      |(refine ax ?_;symm;exact QB e0 Ud (acD Ud))
      |(refine ax ?_;symm;exact afb (ajv (((aaW j2 j1 Ud).k _).1 hkk.1) Ud))
      |(refine ax ?_;symm;exact afc u0 Ud (ajf v0 Uc Ud Ud))
      |(refine ax ?_;symm;exact ajB i2 Uc j2.ok Uc e2 Uc (ajw (aaW j2 j1 Ud) vs1 hkk) u2 Uc)
      |done)
  |omega
  |exact j4
  |(show bz _ _=true;kernel_rfl)
  |exact⟨hew,hel⟩
  |exact⟨hfw,hfl⟩
  |exact cr
  |exact bU i2 (QX Uc)
  |exact bU i2 (QY Ud)
  |(rw[BU q0];exact K7 q2)
  |exact ae2
  |exact ajC q2 q1 Uc
  |exact afd j2 (QX Uc)
  |exact afd j2 (QY Ud)
  |exact aff p2 p0 Uc
  |exact afg p2 j0 Uc p1 Uc
  |exact bU e2 (ahw Ud Ud)
  |exact agB vs1 Ud
  |exact fun k hk=>by cases hk
  |(have q:=hkk.2;simp only[List.length_cons];omega)
  |exact bU v2 (ad8 Ud)
  |exact bU v2 (ad9 Ud)
  |exact bU u2 (ajg v2 Uc u0)
  |done
abbrev Qa1:di:=dH (fun F f=>match f with|60=>fg F|61=>fm F|62=>fh F|63=>lJ F|64=>fA F|65=>gI F|66=>fS F|67=>mL F|68=>jD F|69=>eC F|33=>ap F|70=>kO F|71=>mK F|_=>fun _=>none) (by
 intro f;dsimp only;split;exact j7;exact ka;exact j8;exact xv;exact jM;exact mF;exact k7;exact zD;exact uc;exact gG;exact aw;exact rZ;exact zC;exact dp)
def dM:EC:=fun F=>fun
 |[.agg hl_]=>hL hl_ fun a0 a1 a2 a3 a4 a5 a6 a7 a8 a9 aA aB aC aD aE aF aG aH aI aJ aK aL aM aN=>(fun _=>HpN a0 a1 a2 a4 a5 a6 a7 a8 a9 aA aB aD aL,[.k (F.hpI a0 a1 a2 a3 a4 a5 a6 a7 a8 a9 aA aB aC aD aE aF aG aH aI aJ aK aL aM aN)])
 |_=>none
def eA:ec 17 dM:=by
 intro _ _ _ h hp;dsimp only[dM,F0,hL]at h;split at h;rotate_left;cases h;split at h<;>cases h
 rename_i a0 a1 a2 a3 a4 a5 a6 a7 a8 a9 aA aB aC aD aE aF aG aH aI aJ aK aL aM aN;have N:=hp.n;have hcc:=N.c;have hcw:=N.cw;have hel:=hp.el;have hfl:=hp.fl;have hsl:=N.sl;have hcl:=N.cl;have hlc:=aS (es:=a9);refine cb Qa1 Tryz.func17 ?_
 intro O r F hO hr hF;cbv
 repeat' first|apply Zc|(apply cN<;>intro hb<;>cbv)|(refine⟨[1,57,58,59],[1],Int,fun i=>[.reg 59 (.j i)],fun i=>0<=i/\i<=((a9.length:Nat):Int)/\upto (ccA a9) i,fun i=>(a9.length)-i.toNat,⟨0,?_,?_⟩,?_⟩;rotate_left;(focus (cbv;done));intro i hi;replace hi:0<=i/\i<=((a9.length:Nat):Int)/\upto (ccA a9) i:=hi;obtain⟨i0,i1,i2⟩:=hi;cbv)|(refine ah (O.ar .add Za i 1) ?_ ?_ ?_;focus (cbv;done))
 all_goals(subst hO hr hF;(try simp only[nc]at*);(try simp only[aj,SS,sa,az]at*);(try rw[db Uc Uc]))
 all_goals first
  | (show(_:List DV)=_
     first
      |(refine ax ?_;symm;exact ah0 Ud)
      |(refine ax ?_;symm;exact ah7 Ud)
      |(refine ax ?_;symm;exact ah1 Ud)
      |(refine ax ?_;symm;exact ah5 Ud)
      |(refine ax ?_;symm;exact ah2 Ud)
      |(refine ax ?_;symm;exact adm Ud)
      |(refine ax ?_;symm;exact ah6 Ud)
      |(refine ax ?_;symm;exact adl i0 Ud Ud)
      |(refine ax ?_;symm;exact ah4 Ud)
      |(refine ax ?_;symm;exact ahZ Ud)
      |(refine ax ?_;symm;exact ah8 Ud)
      |(refine ax ?_;symm;exact ah9 Ud)
      |(refine ax ?_;symm;exact aia Ud)
      |(refine ax ?_;symm;exact aib Ud)
      |(refine ax ?_;rw[Tm Ud Ud Ud Ud Ud (VL Uc) Ud (cI i2 Uc) Ud Ud Ud Ud Ud Ud];subst_vars;first|exact adF Ud|exact adG Ud|exact adH Ud Ud|exact rfl|((try rw[cmp_eq]);unfold zI adE;simp[*];done))
      |done)
  |omega
  |exact j4
  |exact⟨hp.c,hp.u,hp.e,hp.r⟩
  |exact⟨Uc,Uc,hp.f,Uc⟩
  |exact⟨N.sw,N.lw,N.sl,N.ll⟩
  |exact⟨N,Ud,hp.e,Uc,hp.f,Uc⟩
  |exact N.m
  |exact⟨N.qw,N.ql⟩
  |exact hcc.n i i0 Ud
  |exact⟨N,Ud⟩
  |exact⟨hp.j,by have:=hp.jl;omega⟩
  |exact⟨N.sw,Uc⟩
  |exact cr
  |exact bU i2 Ud
  |done
end Go.V