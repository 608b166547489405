/- Contracts. -/
import Derived.Test.YtcbcfelbafccpaaGreatXW5
import Derived.Test.YtcbcfelbafccpaaGreatXM5
import Derived.Test.YtcbcfelbafccpaaGreatXW6
set_option linter.all false
open Go
open Act renaming eval->Z1,put->ZT
open And renaming intro->Zc
open Departure renaming mixedOrders->Yv
open Extern.SlicesOverlaps renaming overlaps->XC
open IntKind renaming i64->Za
open List renaming length_nil->Zs,length_eq_one_iff->XD
open True renaming intro->Zd
namespace Go.V
open Go Go.Proofs
set_option maxRecDepth 1000000
set_option maxHeartbeats 8000000
abbrev Zr0:dq:=dP (fun F f=>match f with|91=>dd F|46=>gy F|52=>ah F|_=>fun _=>none) (by
 intro f;dsimp only;split;exact dW;exact nh;exact be;exact dy)
def j5:EC:=fun F=>fun
 |[.agg [.s 1 ls],.one (.v (.int Za k))]=>some (fun _=>MN ls,[.k (F.clB ls k)])
 |_=>none
def uO:ec 104 j5:=by
 intro _ _ _ h hp;dsimp only[j5,F0]at h;split at h<;>cases h
 rename_i ls k;refine cb Zr0 Tryz.func104 ?_
 intro O r F hO hr hF;cbv
 repeat' first|apply Zc|(apply cN<;>intro hb<;>cbv)
 all_goals(subst hO hr hF;(try simp only[nc]at*);(try simp only[am,SS,sa,az]at*))
 all_goals first
  | (show(_:List DV)=_
     first
      |exact au (Q8 Ud).symm
      |exact au (Q9 Ud).symm
      |exact au (Ra Ud).symm
      |exact au (Rb Ud).symm
      |done)
  | (show(_:List H)=_
     first
      |done)
  |omega
  |exact ga
  |exact hp
  |(show ay _ _=true;kernel_rfl)
  |exact⟨Zd,Zd⟩
  |exact Zd
  |done
abbrev Zy0:dq:=dP (fun F f=>match f with|138=>iN F|_=>fun _=>none) (by
 intro f;dsimp only;split;exact o8;exact dy)
def fU:EC:=fun F=>fun
 |[.one (.v (.int Za b)),.one (.v (.int Za i))]=>some (fun _=>True,[.j (F.wiN b i)])
 |_=>none
def mN:ec 109 fU:=by
 intro _ _ _ h hp;dsimp only[fU,F0]at h;split at h<;>cases h
 rename_i b i;refine cb Zy0 Tryz.func109 ?_
 intro O r F hO hr hF;cbv
 repeat' first|apply Zc|(apply cN<;>intro hb<;>cbv)
 all_goals(subst hO hr hF;(try simp only[nc]at*);(try simp only[am,SS,sa,az]at*);(try have hs:=PI.1 (by assumption:slB b i=true));(try have hw:=Bq hs.2.1 hs.2.2);(try simp only[hw]at*))
 all_goals first
  | (show(_:List DV)=_
     first
      |(refine cg ?_;unfold wiN;rw[show slB b i=false from Ud];exact rfl)
      |(refine cg ?_;unfold wiN;rw[VJ (by assumption:slB b i=true)])
      |done)
  | (show(_:List H)=_
     first
      |done)
  |omega
  |exact ga
  |(show ay _ _=true;kernel_rfl)
  |exact⟨Zd,Zd⟩
  |exact Zd
  |done
abbrev Zy1:dq:=dP (fun F f=>match f with|125=>fM F|130=>dX F|106=>db F|52=>ah F|_=>fun _=>none) (by
 intro f;dsimp only;split;exact mH;exact gw;exact dV;exact be;exact dy)
def fh:EC:=fun F=>fun
 |[.one (.v (.int Za n)),.one (.v (.int Za b))]=>some (fun _=>True,[.one (.s 1 (F.frL n b))])
 |_=>none
def lc:ec 105 fh:=by
 intro _ _ _ h hp;dsimp only[fh,F0]at h;split at h<;>cases h
 rename_i n b;refine cb Zy1 Tryz.func105 ?_
 intro O r F hO hr hF;cbv
 repeat' first|apply Zc|(apply cN<;>intro hb<;>cbv)|(refine⟨[0,1,5,6],[5],Int×af,fun s_=>match s_ with|(i,o)=>[.reg 6 (.j i),.reg 5 (.one (.vw 5 0 0 0 (O.ln o))),.leaf 5 0 ⟨0,0,none,.own (.s 1 o)⟩],fun s_=>match s_ with|(i,o)=>0<=i/\i<=n/\IK b i o,fun s_=>match s_ with|(i,o)=>(n-i).toNat,⟨(0,[]),?_,?_⟩,?_⟩;rotate_left;(focus (cbv;done));intro s_ hi;obtain⟨i,o⟩:=s_;replace hi:0<=i/\i<=n/\IK b i o:=hi;obtain⟨i0,i1,i2⟩:=hi;cbv)|(refine ai (O.ar .add Za i 1,o) ?_ ?_ ?_;focus (cbv;done))|(refine ai (O.ar .add Za i 1,O.cat o (O.sub [[.i i]] 0 (O.ln [[.i i]]))) ?_ ?_ ?_;focus (cbv;done))
 all_goals(subst hO hr hF;(try simp only[nc]at*);(try simp only[am,SS,sa,az]at*);(try rw[di Uc Uc]);(try have hb:bmOk n b=true:=Ud);(try have rb:=QU hb);(try have b1:bK .add Za i 1=i+1:=cu Uc);(try simp only[b1]at*);(try have il:=JM i2 i0))
 all_goals first
  | (show(_:List DV)=_
     first
      |exact yT (abU Ud).symm
      |exact yT (JL i2 hb Uc Uc)
      |done)
  | (show(_:List H)=_
     first
      |done)
  |omega
  |exact ga
  |exact RI
  |exact RJ i2 i0 Ud
  |exact RL i2 i0 Ud
  |(simp only[bN,iS,scal];done)
  |(simp[bN,iS,scal];done)
  |exact Rw.scal (fs:=[tI]) (NE i2 Uc) rfl
  |(simp only[List.length_cons,Zs];omega)
  |(show ay _ _=true;kernel_rfl)
  |exact⟨Zd,Zd⟩
  |exact Zd
  |done
abbrev Zy2:dq:=dP (fun F f=>match f with|58=>fk F|104=>j5 F|_=>fun _=>none) (by
 intro f;dsimp only;split;exact li;exact uO;exact dy)
def ic:EC:=fun F=>fun
 |[.agg [.s 1 ls],.one (.v (.int Za k))]=>some (fun _=>Rw [.sl [tI]] ls/\bC ls<=1073741824,[.agg [.s 1 (F.ctL ls k)],.j (F.ctA ls k),.k (F.ctB ls k)])
 |_=>none
def rq:ec 63 ic:=by
 intro _ _ _ h hp;dsimp only[ic,F0]at h;split at h<;>cases h
 rename_i ls k;obtain⟨hw,hc⟩:=hp;have N:=Tw hw Uc;have ln:=bj (es:=ls);refine cb Zy2 Tryz.func63 ?_
 intro O r F hO hr hF;cbv
 repeat' first|apply Zc|(apply cN<;>intro hb<;>cbv)
 all_goals(subst hO hr hF;(try simp only[nc]at*);(try simp only[am,SS,sa,az]at*);(try simp only[mo]at*);(try have ht:clB ls k=true:=Ud);(try have hi:=Li ht);(try have k1:k<ls.length:=Uc);(try have hg:=CW hw hi.1 k1);(try have hz:=Rm (k:=k) ht Uc);(try have e1:bK .sub Za ((aO ls k 0).length:Int) 1=(aO ls k 0).length-1:=fC Uc);(try simp only[e1]at*);(try simp only[uq,H6,adA,List.nil_append]at*);(try have hu:=abM hw hc ht))
 all_goals first
  | (show(_:List DV)=_
     first
      |(have q:=Rk (Lm (by assumption:clB ls k=false));rw[q.1,q.2,Lm (by assumption:clB ls k=false)];exact rfl)
      |(have q:=Rk (Ln (ls:=ls) (k:=k) Uc);rw[q.1,q.2,Ln (ls:=ls) (k:=k) Uc];exact rfl)
      |(rw[hz.1,hz.2.1,hz.2.2,Iq hw hi.1 k1];exact rfl)
      |(rw[hz.1,hz.2.1,hz.2.2];exact rfl)
      |done)
  | (show(_:List H)=_
     first
      |done)
  |omega
  |exact ga
  |exact N
  |exact⟨hw,Uc⟩
  |exact yq hw hi.1 k1
  |exact⟨hi.1,k1⟩
  |exact⟨Uc,Uc,Uc,qq hw hi.1 k1⟩
  |exact⟨Zd,rfl,hu.1,hu.2.1⟩
  |exact⟨Zd,hu.1,hu.2.1⟩
  |exact⟨hu.1,hu.2.1⟩
  |exact Rw.scal (fs:=[tI]) (Rw.take hg _) rfl
  |(show _/\_;simp only[Zs,List.length_take];omega)
  |exact Ie hw hi.1 k1
  |(rw[show(aO ls k 0).length-1=(((aO ls k 0).length:Int)-1).toNat from by omega];exact ga)
  |(show ay _ _=true;kernel_rfl)
  |exact⟨Zd,Zd⟩
  |exact Zd
  |done
set_option maxRecDepth 100000 in
open Go.Shelf Go.RowKit Go.Lib in
theorem Cf:FJ Tryz.prog 113 38:=by
 intro w W base n c vb vo vc v hnc hm hb hr;have mixed:Tryz.prog.follows Yv=true:=mixed
 go_enter Tryz.func113,Tryz.ntmps113
 rcases base with _|⟨ab,ao,asp⟩
 ·obtain rfl:=hb rfl;obtain rfl:n=0:=by omega
  go_wp2_with (at_builtin;refine dG rfl (lQ rfl rfl rfl hr) ?_)
  go_ret;exact⟨rfl,rfl⟩
 ·go_wp2_with (at_builtin;refine dG rfl (lQ rfl rfl rfl hr) ?_)
  all_goals(go_ret;exact⟨rfl,rfl⟩)
set_option maxRecDepth 100000 in
open Go.Shelf Go.RowKit Go.Lib in
theorem Cj:FL Tryz.prog 113 38 3:=by
 intro w W1 W2 b off n c i vb vo vc hi hroom hm ho h1 h2;have mixed:Tryz.prog.follows Yv=true:=mixed;have hov:∀ lb cb,(callFunc 142 #[.slice (some ⟨vb,vo,none⟩) 1 vc,.slice (some ⟨b,off+(i+1)*3,none⟩) lb cb]).run Tryz.prog w=.ok (.value (.bool false)) w:=fun lb cb=>by
  rw[run_callFunc_extern Tryz.func142 (by kernel_rfl) (by kernel_rfl) (by kernel_rfl) (e:=XC #[38,38] #[4]) (by kernel_rfl),ho 4 _ Tryz.underlying38 (fun _=>rfl) lb cb];rfl
 clear ho;obtain⟨hb1,hb2,hb3,hb4,hb5,hb7,hb9⟩:=Cg hi hroom hm
 go_enter Tryz.func113,Tryz.ntmps113
 go_wp2_with (simp only[hov])
 go_region_law_o (refine lL rfl (d7 rfl (v:=.slice (some ⟨b,off+(i+1)*3,none⟩) (n+1- (i+1)) (c- (i+1))) (u:=.slice (some ⟨b,off+i*3,none⟩) (n+1-i) (c-i)) (by simp[Z1,ZT]) (by simp[Z1,ZT]) (fun ty=>h1 ty _ _)) ?_)
 go_wp2_with (at_builtin;refine dG rfl (d7 rfl rfl rfl (fun ty=>h2 ty _)) ?_)
 go_ret
 exact⟨rfl,rfl⟩
set_option maxRecDepth 100000 in
open Go.Shelf Go.RowKit Go.Lib in
theorem Ci:FK Tryz.prog 113 38 3 3:=by
 intro w W1 W2 W3 N b off n c i vb vo vc g hi hnc hcn hg hm h0 h1 h2;have mixed:Tryz.prog.follows Yv=true:=mixed;obtain⟨hb1,hb2,hb3,hb4,hb5,hb6,hb7,hb8⟩:=Ch hi hnc hcn hg hm
 go_enter Tryz.func113,Tryz.ntmps113
 go_wp2_with (first
  |(at_builtin;refine dG rfl (lQ rfl rfl rfl h0) ?_)
  |(at_builtin;refine dG rfl (d7 rfl rfl rfl (fun ty=>h1 ty _)) ?_)
  |(at_builtin;refine dG rfl (d7 rfl rfl rfl (fun ty=>h2 ty _ _)) ?_))
 go_region_law_o (refine lL rfl (d7 rfl (v:=.slice (some ⟨N,(i+1)*3,none⟩) (n+1- (i+1)) (g- (i+1))) (u:=.slice (some ⟨b,off+i*3,none⟩) (n-i) (c-i)) (by simp[Z1,ZT]) (by simp[Z1,ZT]) (fun ty=>h2 ty _ _)) ?_)
 go_wp2
 go_ret
 exact⟨rfl,rfl⟩
set_option maxRecDepth 100000 in
open Go.Shelf Go.RowKit Go.Lib in
theorem AC:FJ Tryz.prog 69 39:=by
 intro w W base n c vb vo vc v hnc hm hb hr;have mixed:Tryz.prog.follows Yv=true:=mixed
 go_enter Tryz.func69,Tryz.ntmps69
 rcases base with _|⟨ab,ao,asp⟩
 ·obtain rfl:=hb rfl;obtain rfl:n=0:=by omega
  go_wp2_with (at_builtin;refine dG rfl (lQ rfl rfl rfl hr) ?_)
  go_ret;exact⟨rfl,rfl⟩
 ·go_wp2_with (at_builtin;refine dG rfl (lQ rfl rfl rfl hr) ?_)
  all_goals(go_ret;exact⟨rfl,rfl⟩)
set_option maxRecDepth 100000 in
open Go.Shelf Go.RowKit Go.Lib in
theorem AE:FL Tryz.prog 69 39 3:=by
 intro w W1 W2 b off n c i vb vo vc hi hroom hm ho h1 h2;have mixed:Tryz.prog.follows Yv=true:=mixed;have hov:∀ lb cb,(callFunc 114 #[.slice (some ⟨vb,vo,none⟩) 1 vc,.slice (some ⟨b,off+(i+1)*3,none⟩) lb cb]).run Tryz.prog w=.ok (.value (.bool false)) w:=fun lb cb=>by
  rw[run_callFunc_extern Tryz.func114 (by kernel_rfl) (by kernel_rfl) (by kernel_rfl) (e:=XC #[39,39] #[4]) (by kernel_rfl),ho 4 _ Tryz.underlying39 (fun _=>rfl) lb cb];rfl
 clear ho;obtain⟨hb1,hb2,hb3,hb4,hb5,hb7,hb9⟩:=Cg hi hroom hm
 go_enter Tryz.func69,Tryz.ntmps69
 go_wp2_with (simp only[hov])
 go_region_law_o (refine lL rfl (d7 rfl (v:=.slice (some ⟨b,off+(i+1)*3,none⟩) (n+1- (i+1)) (c- (i+1))) (u:=.slice (some ⟨b,off+i*3,none⟩) (n+1-i) (c-i)) (by simp[Z1,ZT]) (by simp[Z1,ZT]) (fun ty=>h1 ty _ _)) ?_)
 go_wp2_with (at_builtin;refine dG rfl (d7 rfl rfl rfl (fun ty=>h2 ty _)) ?_)
 go_ret
 exact⟨rfl,rfl⟩
set_option maxRecDepth 100000 in
open Go.Shelf Go.RowKit Go.Lib in
theorem AD:FK Tryz.prog 69 39 3 3:=by
 intro w W1 W2 W3 N b off n c i vb vo vc g hi hnc hcn hg hm h0 h1 h2;have mixed:Tryz.prog.follows Yv=true:=mixed;obtain⟨hb1,hb2,hb3,hb4,hb5,hb6,hb7,hb8⟩:=Ch hi hnc hcn hg hm
 go_enter Tryz.func69,Tryz.ntmps69
 go_wp2_with (first
  |(at_builtin;refine dG rfl (lQ rfl rfl rfl h0) ?_)
  |(at_builtin;refine dG rfl (d7 rfl rfl rfl (fun ty=>h1 ty _)) ?_)
  |(at_builtin;refine dG rfl (d7 rfl rfl rfl (fun ty=>h2 ty _ _)) ?_))
 go_region_law_o (refine lL rfl (d7 rfl (v:=.slice (some ⟨N,(i+1)*3,none⟩) (n+1- (i+1)) (g- (i+1))) (u:=.slice (some ⟨b,off+i*3,none⟩) (n-i) (c-i)) (by simp[Z1,ZT]) (by simp[Z1,ZT]) (fun ty=>h2 ty _ _)) ?_)
 go_wp2
 go_ret
 exact⟨rfl,rfl⟩
set_option maxRecDepth 100000 in
open Go.Shelf Go.RowKit Go.Lib in
theorem EZ:FJ Tryz.prog 27 40:=by
 intro w W base n c vb vo vc v hnc hm hb hr;have mixed:Tryz.prog.follows Yv=true:=mixed
 go_enter Tryz.func27,Tryz.ntmps27
 rcases base with _|⟨ab,ao,asp⟩
 ·obtain rfl:=hb rfl;obtain rfl:n=0:=by omega
  go_wp2_with (at_builtin;refine dG rfl (lQ rfl rfl rfl hr) ?_)
  go_ret;exact⟨rfl,rfl⟩
 ·go_wp2_with (at_builtin;refine dG rfl (lQ rfl rfl rfl hr) ?_)
  all_goals(go_ret;exact⟨rfl,rfl⟩)
set_option maxRecDepth 100000 in
open Go.Shelf Go.RowKit Go.Lib in
theorem E1:FL Tryz.prog 27 40 4:=by
 intro w W1 W2 b off n c i vb vo vc hi hroom hm ho h1 h2;have mixed:Tryz.prog.follows Yv=true:=mixed;have hov:∀ lb cb,(callFunc 70 #[.slice (some ⟨vb,vo,none⟩) 1 vc,.slice (some ⟨b,off+(i+1)*4,none⟩) lb cb]).run Tryz.prog w=.ok (.value (.bool false)) w:=fun lb cb=>by
  rw[run_callFunc_extern Tryz.func70 (by kernel_rfl) (by kernel_rfl) (by kernel_rfl) (e:=XC #[40,40] #[4]) (by kernel_rfl),ho 4 _ Tryz.underlying40 (fun _=>rfl) lb cb];rfl
 clear ho;obtain⟨hb1,hb2,hb3,hb4,hb5,hb7,hb9⟩:=Cg hi hroom hm
 go_enter Tryz.func27,Tryz.ntmps27
 go_wp2_with (simp only[hov])
 go_region_law_o (refine lL rfl (d7 rfl (v:=.slice (some ⟨b,off+(i+1)*4,none⟩) (n+1- (i+1)) (c- (i+1))) (u:=.slice (some ⟨b,off+i*4,none⟩) (n+1-i) (c-i)) (by simp[Z1,ZT]) (by simp[Z1,ZT]) (fun ty=>h1 ty _ _)) ?_)
 go_wp2_with (at_builtin;refine dG rfl (d7 rfl rfl rfl (fun ty=>h2 ty _)) ?_)
 go_ret
 exact⟨rfl,rfl⟩
set_option maxRecDepth 100000 in
open Go.Shelf Go.RowKit Go.Lib in
theorem E0:FK Tryz.prog 27 40 3 4:=by
 intro w W1 W2 W3 N b off n c i vb vo vc g hi hnc hcn hg hm h0 h1 h2;have mixed:Tryz.prog.follows Yv=true:=mixed;obtain⟨hb1,hb2,hb3,hb4,hb5,hb6,hb7,hb8⟩:=Ch hi hnc hcn hg hm
 go_enter Tryz.func27,Tryz.ntmps27
 go_wp2_with (first
  |(at_builtin;refine dG rfl (lQ rfl rfl rfl h0) ?_)
  |(at_builtin;refine dG rfl (d7 rfl rfl rfl (fun ty=>h1 ty _)) ?_)
  |(at_builtin;refine dG rfl (d7 rfl rfl rfl (fun ty=>h2 ty _ _)) ?_))
 go_region_law_o (refine lL rfl (d7 rfl (v:=.slice (some ⟨N,(i+1)*4,none⟩) (n+1- (i+1)) (g- (i+1))) (u:=.slice (some ⟨b,off+i*4,none⟩) (n-i) (c-i)) (by simp[Z1,ZT]) (by simp[Z1,ZT]) (fun ty=>h2 ty _ _)) ?_)
 go_wp2
 go_ret
 exact⟨rfl,rfl⟩
def ak:EO:=fun F=>fun
 |[.one (.s 3 es),.one (.v (.int Za i)),.one (.s 3 x)]=>some (fun _=>0<=i/\i<=es.length/\es.length<=1073741824/\bN es/\bN x/\x.length=1,[.one (.s 3 (F.inL es i x))])
 |_=>none
def cD:eo 113 ak:=by
 intro _ _ _ h hp;dsimp only[ak,F0]at h;split at h<;>cases h
 rename_i es i x;obtain⟨i0,i1,l,s1,s2,x1⟩:=hp;obtain⟨r,rfl⟩:=XD.1 x1;exact vI (sz:=3) tw rfl rfl (by decide) Tryz.underlying3 Cf Cj Ci ⟨i0,i1,l⟩ s1 s2
def cA:eo 69 ak:=by
 intro _ _ _ h hp;dsimp only[ak,F0]at h;split at h<;>cases h
 rename_i es i x;obtain⟨i0,i1,l,s1,s2,x1⟩:=hp;obtain⟨r,rfl⟩:=XD.1 x1;exact vI (sz:=3) tw rfl rfl (by decide) Tryz.underlying3 AC AE AD ⟨i0,i1,l⟩ s1 s2
def bA:EO:=fun F=>fun
 |[.one (.s 4 es),.one (.v (.int Za i)),.one (.s 4 x)]=>some (fun _=>0<=i/\i<=es.length/\es.length<=1073741824/\bN es/\bN x/\x.length=1,[.one (.s 4 (F.inL es i x))])
 |_=>none
def cG:eo 27 bA:=by
 intro _ _ _ h hp;dsimp only[bA,F0]at h;split at h<;>cases h
 rename_i es i x;obtain⟨i0,i1,l,s1,s2,x1⟩:=hp;obtain⟨r,rfl⟩:=XD.1 x1;exact vI (sz:=4) tw rfl rfl (by decide) Tryz.underlying3 EZ E1 E0 ⟨i0,i1,l⟩ s1 s2
def gC:EC:=fun F=>fun
 |[.agg [.v (.int Za d0),.v (.int Za d1),.v (.int Za d2)],.ptr [.v (.int Za ad)]]=>some (fun _=>True,[.k (F.pmB d0 ad)])
 |_=>none
def pS:ec 31 gC:=by
 intro _ _ _ h hp;dsimp only[gC,F0]at h;split at h<;>cases h
 rename_i d0 d1 d2 ad;refine cb nB Tryz.func31 ?_
 intro O r F hO hr hF;cbv
 repeat' first|apply Zc|(apply cN<;>intro hb<;>cbv)
 all_goals(subst hO hr hF;(try simp only[nc]at*);(try simp only[am,SS,sa,az]at*))
 all_goals first
  | (show(_:List DV)=_
     first
      |exact au (k8 (by unfold pmB eqB;simp only[SS,VI]))
      |exact au (show true=pmB d0 ad from(xk Ud).symm)
      |exact au (show false=pmB d0 ad from(An Ud).symm)
      |done)
  |done
abbrev Ze1:dq:=dP (fun F f=>match f with|31=>gC F|_=>fun _=>none) (by
 intro f;dsimp only;split;exact pS;exact dy)
def aV:EC:=fun F=>fun
 |[.one (.s 3 os),.fn 31 [[.v (.int Za id)]]]=>some (fun _=>Rw [tI,tI,tI] os/\os.length<=1099511627776,[.j (F.lhI os id)])
 |_=>none
def bZ:ec 30 aV:=by
 intro _ _ _ h hp;dsimp only[aV,F0]at h;split at h<;>cases h
 rename_i os id;obtain⟨hw,hn⟩:=hp;refine cb Ze1 Tryz.func30 ?_
 intro O r F hO hr hF;cbv
 repeat' first|apply Zc|(apply cN<;>intro hb<;>cbv)|(refine⟨[0,1,7,8],[0],Int,fun i=>[.reg 8 (.j i)],fun i=>0<=i/\i<=((os.length:Nat):Int)/\upto (cI (E2 os id)) i,fun i=>(os.length)-i.toNat,⟨0,?_,?_⟩,?_⟩;rotate_left;(focus (cbv;done));intro i hi;replace hi:0<=i/\i<=((os.length:Nat):Int)/\upto (cI (E2 os id)) i:=hi;obtain⟨i0,i1,i2⟩:=hi;cbv)|(refine ai (O.ar .add Za i 1) ?_ ?_ ?_;focus (cbv;done))
 all_goals(subst hO hr hF;(try simp only[nc]at*);(try simp only[am,SS,sa,az]at*);(try rw[di Uc Uc]))
 all_goals first
  | (show(_:List DV)=_
     first
      |exact cg (dB i2 i0 Ud (show E2 os id i=true from by assumption)).symm
      |exact cg (dL i2 Ud).symm
      |done)
  |omega
  |exact ga
  |(show(lk _ _).isSome=true;kernel_rfl)
  |exact bR
  |exact bL i2 (fE (show E2 os id i=false from by assumption))
  |done
abbrev Ze2:dq:=dP (fun F f=>match f with|75=>eV F|19=>ah F|68=>cF F|52=>ah F|14=>cF F|_=>fun _=>none) (by
 intro f;dsimp only;split;exact jQ;exact aw;exact je;exact be;exact ji;exact dy)
def io:EC:=fun F=>fun
 |[.agg [.v (.int Za p),.v (.int Za n),.v (.int Za s)],.one (.v (.int Za z))]=>some (fun _=>True,[.agg [.i p,.i (F.ltN p n s z),.i (F.ltS p n s z)],.agg [.i (F.ltA p n s z),.i (F.ltL p n s z)],.k (F.ltB p n s z)])
 |_=>none
def rD:ec 32 io:=by
 intro _ _ _ h hp;dsimp only[io,F0]at h;split at h<;>cases h
 rename_i p n s z;refine cb Ze2 Tryz.func32 ?_
 intro O r F hO hr hF;cbv
 repeat' first|apply Zc|(apply cN<;>intro hb<;>cbv)
 all_goals(subst hO hr hF;(try simp only[nc]at*);(try simp only[am,SS,sa,az]at*);(try have b:=acT (p:=p) (n:=n) (s:=s) (z:=z) Ud Ud);(try have T:=ltT b);(try have p0:=T.p0);(try have n1:=T.n1);(try have m0:=T.m0);(try have e1:bK .add Za p (pfN z)=p+pfN z:=cu Uc);(try have e2:bK .sub Za n (pfN z)=n-pfN z:=fC Uc);(try simp only[e1,e2]at*))
 all_goals first
  | (show(_:List DV)=_
     first
      |(have f:=acR (p:=p) (n:=n) (s:=s) (z:=z) Ud;have q:=S8 f;exact DZ rfl q.1.symm q.2.1.symm q.2.2.1.symm q.2.2.2.symm f.symm)
      |(have f:=acS (p:=p) (n:=n) (s:=s) (z:=z) Ud;have q:=S8 f;exact DZ rfl q.1.symm q.2.1.symm q.2.2.1.symm q.2.2.2.symm f.symm)
      |(have q:=S7 b Uc;exact DZ rfl Uc q.2.1.symm q.2.2.1.symm q.2.2.2.symm b.symm)
      |(have q:=S9 b Uc;exact DZ rfl q.1.symm q.2.1.symm q.2.2.1.symm q.2.2.2.symm b.symm)
      |done)
  |exact Zd
  |(show ay _ _=true;kernel_rfl)
  |done
abbrev Ze3:dq:=dP (fun F f=>match f with|77=>cO F|_=>fun _=>none) (by
 intro f;dsimp only;split;exact dx;exact dy)
def gK:EP:=fun F=>fun
 |[.mp [.own (.s 1 cs),.own (.s 1 us),.own (.s 2 es),.own (.v (.int Za c)),.own (.s 1 rs)],.one (.v (.int Za a)),.one (.v (.int Za n))]=>some (fun _=>Rw [.sl [tI]] cs/\Rw [tI,tI] es/\kJ cs us es/\0<=a/\a<=9223372036854775807/\peM es (a/16)≠0/\0<=n/\a%16+n<=16,[[.own (.s 1 (F.tcC cs es a n)),.own (.s 1 us),.own (.s 2 es),.own (.i c),.own (.s 1 rs)]],[])
 |_=>none
def pZ:ep 34 gK:=by
 intro _ _ _ _ h hp;dsimp only[gK,F0]at h;split at h<;>cases h
 rename_i cs us es c rs a n;obtain⟨wc,we,km,a0,a1,hm,n0,n1⟩:=hp;have fr:=LX km hm;have e1:bK .quo Za a 16=a/16:=xE Uc Uc Uc;have e2:bK .rem Za a 16=a%16:=tp Uc;refine pb Ze3 Tryz.func34 ?_
 intro O r os F hO hr hos hF;cbv
 repeat' first|apply Zc|(apply cN<;>intro hb<;>cbv)|(refine⟨[0,1,2,6,7],[0],Int×af,fun s_=>match s_ with|(i,d)=>[.reg 7 (.j i),.leaf 0 0 ⟨0,0,none,.own (.s 1 d)⟩],fun s_=>match s_ with|(i,d)=>0<=i/\i<=n/\MS cs us es (peF es (a/16)) (a%16) i d,fun s_=>match s_ with|(i,d)=>(n-i).toNat,⟨(0,cs),?_,?_⟩,?_⟩;rotate_left;(focus (cbv;done));intro s_ hi;obtain⟨i,d⟩:=s_;replace hi:0<=i/\i<=n/\MS cs us es (peF es (a/16)) (a%16) i d:=hi;obtain⟨i0,i1,i2⟩:=hi;cbv)|(refine ai (O.ar .add Za i 1,O.up (.s 1 d) [(O.ad 0 (F.peF (O.sub es 0 (O.ln es)) (O.ar .quo Za a 16)),0),(O.ad 0 (O.ar .add Za (O.ar .rem Za a 16) i),0)] [.i 0]) ?_ ?_ ?_;focus (cbv;done))
 all_goals((try subst hos);subst hO hr hF;(try simp only[nc]at*);(try simp only[am,SS,sa,az]at*);(try simp only[mo]at*);(try rw[di Uc Uc]);(try simp only[e1]at*);(try simp only[e2]at*);(try have e3:bK .add Za (a%16) i=a%16+i:=cu Uc);(try simp only[e3]at*);(try have dl:=i2.m.u.symm.trans km.u);(try have lf:=i2.m.l (peF es (a/16)) fr.1 Uc);(try have q:=Ij i2 i0 hm rfl Uc Uc))
 all_goals first
  |(show(_:List DV)=_;exact rfl)
  | (show(_:List H)=_
     first
      |(have z:=KV i2 (n:=n) Uc Uc;rw[z];exact rfl)
      |done)
  |omega
  |exact we
  |exact Mq km wc
  |(rw[aaU i2.w fr.1 Uc Uc Uc];exact q)
  |exact LE i2.w fr.1 Uc Uc Uc
  |exact yq i2.w fr.1 Uc
  |exact⟨Uc,Uc,qq i2.w fr.1 Uc⟩
  |(show ay _ _=true;kernel_rfl)
  |exact⟨Zd,Zd⟩
  |exact Zd
  |done
abbrev Zf1:dq:={
 Φ:=wC
 F0:=F0
 ct:=fun F f=>match f with|22=>ez F|30=>aV F|12=>dS F|32=>io F|33=>lW F|_=>fun _=>none
 hc:=(by
  intro f;dsimp only;split;exact jh;exact bZ;exact eC;exact rD;exact x7;exact dy)
 pt:=fun F f=>match f with|34=>some (gK F)|35=>some (iw F)|_=>none
 hp:=(by
  intro f mk h;dsimp only at h;split at h<;>cases h
  exact pZ;exact rI)}
def mR:EC:=fun F=>fun
 |[.agg hl_,.one (.v (.int Za ad)),.one (.v (.int Za z))]=>hL hl_ fun a0 a1 a2 a3 a4 a5 a6 a7 a8 a9 aA aB aC aD aE aF aG aH aI aJ aK aL aM aN=>(fun _=>tz a0 a1 a2 a4 a5 a6 a7 a8 a9 aA aB aD aL,[.agg (LH (F.ifR (F.tvB (F.hpI a0 a1 a2 a3 a4 a5 a6 a7 a8 a9 aA aB aC aD aE aF aG aH aI aJ aK aL aM aN) a3 a7 ad z) (F.tmC a0 a1 a2 a7 ad z) a0) (F.ifR (F.tvB (F.hpI a0 a1 a2 a3 a4 a5 a6 a7 a8 a9 aA aB aC aD aE aF aG aH aI aJ aK aL aM aN) a3 a7 ad z) (F.tmU a0 a1 a2 a7 ad z) a1) (F.ifR (F.tvB (F.hpI a0 a1 a2 a3 a4 a5 a6 a7 a8 a9 aA aB aC aD aE aF aG aH aI aJ aK aL aM aN) a3 a7 ad z) (F.tmE a0 a1 a2 a7 ad z) a2) a3 a4 (F.ifR (F.tvB (F.hpI a0 a1 a2 a3 a4 a5 a6 a7 a8 a9 aA aB aC aD aE aF aG aH aI aJ aK aL aM aN) a3 a7 ad z) (F.tmF a0 a1 a2 a5 a7 ad z) a5) a6 (F.ifR (F.tvB (F.hpI a0 a1 a2 a3 a4 a5 a6 a7 a8 a9 aA aB aC aD aE aF aG aH aI aJ aK aL aM aN) a3 a7 ad z) (F.tmL a7 ad z) a7) (F.ifR (F.tvB (F.hpI a0 a1 a2 a3 a4 a5 a6 a7 a8 a9 aA aB aC aD aE aF aG aH aI aJ aK aL aM aN) a3 a7 ad z) (F.tmO a8 ad z) a8) a9 aA aB aC aD aE aF aG aH aI aJ aK aL aM aN),.k (F.tvB (F.hpI a0 a1 a2 a3 a4 a5 a6 a7 a8 a9 aA aB aC aD aE aF aG aH aI aJ aK aL aM aN) a3 a7 ad z)])
 |_=>none
def tF:ec 9 mR:=by
 intro _ _ _ h hp;dsimp only[mR,F0,hL]at h;split at h;rotate_left;cases h;split at h<;>cases h
 rename_i ad z _ a0 a1 a2 a3 a4 a5 a6 a7 a8 a9 aA aB aC aD aE aF aG aH aI aJ aK aL aM aN;have l7:=bj (es:=a7);have c7:=hp.c7;have l8:=bj (es:=a8);have c8:=hp.c8;have l5:=bj (es:=a5);have c5:=hp.c5;have h7:=hp.r7;have h8:=hp.r8;refine cb Zf1 Tryz.func9 ?_
 intro O r F hO hr hF;cbv
 repeat' first|apply Zc|(apply cN<;>intro hb<;>cbv)
 all_goals(subst hO hr hF;(try simp only[nc]at*);(try simp only[am,SS,sa,az]at*);(try have i0:0<=lhI a7 ad:=Uc);(try have i1:=(SV i0).1);(try have hk:hpI a0 a1 a2 a3 a4 a5 a6 a7 a8 a9 aA aB aC aD aE aF aG aH aI aJ aK aL aM aN=true:=Ud);(try have kk:=(qt hk).k);(try have c3:a3≠100000:=Ud);(try simp only[show ag a7 (lhI a7 ad) 0=ja a7 ad from rfl,show ag a7 (lhI a7 ad) 1=uv a7 ad from rfl,show ag a7 (lhI a7 ad) 2=zU a7 ad from rfl]at*);(try have b:=adD (z:=z) i0 Ud);(try have T:=PY hp hk b);(try have p0:=T.t.p0);(try have n1:=T.t.n1);(try have m0:=T.t.m0);(try have m1:=T.t.m1);(try have z0:=T.t.z0);(try have o0:=T.o0);(try have o1:=T.o1);(try have pe:=T.p);(try have aq:=aaO T);(try have f32:=T.f);(try have e1:bK .mul Za (ja a7 ad) 16=ja a7 ad*16:=vF Uc);(try have e2:bK .add Za (ja a7 ad*16) z=ja a7 ad*16+z:=cu Uc);(try have e3:bK .rem Za (ja a7 ad*16+z) 16=(ja a7 ad*16+z)%16:=tp Uc);(try have e4:bK .sub Za 16 ((ja a7 ad*16+z)%16)=16- (ja a7 ad*16+z)%16:=fC Uc);(try simp only[show ltA (ja a7 ad) (uv a7 ad) (zU a7 ad) z=Bz a7 ad z from rfl,show ltL (ja a7 ad) (uv a7 ad) (zU a7 ad) z=zT a7 ad z from rfl,Io T]at*);(try simp only[e1]at*);(try simp only[e2]at*);(try simp only[e3]at*);(try simp only[e4]at*);(try have hm:=T.g ((ja a7 ad*16+z)/16) Uc Uc))
 all_goals first
  | (show(_:List DV)=_
     first
      |(have q:tvB (hpI a0 a1 a2 a3 a4 a5 a6 a7 a8 a9 aA aB aC aD aE aF aG aH aI aJ aK aL aM aN) a3 a7 ad z=false:=adF Ud;rw[q];exact rfl)
      |(have q:tvB (hpI a0 a1 a2 a3 a4 a5 a6 a7 a8 a9 aA aB aC aD aE aF aG aH aI aJ aK aL aM aN) a3 a7 ad z=false:=adG Ud;rw[q];exact rfl)
      |(have q:tvB (hpI a0 a1 a2 a3 a4 a5 a6 a7 a8 a9 aA aB aC aD aE aF aG aH aI aJ aK aL aM aN) a3 a7 ad z=false:=aaQ (adB Uc);rw[q];exact rfl)
      |(have q:tvB (hpI a0 a1 a2 a3 a4 a5 a6 a7 a8 a9 aA aB aC aD aE aF aG aH aI aJ aK aL aM aN) a3 a7 ad z=false:=aaQ (adC Ud);rw[q];exact rfl)
      |(have q:tvB (hpI a0 a1 a2 a3 a4 a5 a6 a7 a8 a9 aA aB aC aD aE aF aG aH aI aJ aK aL aM aN) a3 a7 ad z=true:=KY hk c3 b;have g0:=Mr (a0:=a0) (a1:=a1) (a2:=a2) (a5:=a5) (a7:=a7) (ad:=ad) (z:=z) Uc;have d1:=Im (a0:=a0) (a2:=a2) (a7:=a7) (ad:=ad) (z:=z) Ud;rw[q,xL h7 i0 i1, <-sr T,xK h8 o0 o1,g0.1,g0.2.1,g0.2.2.1,g0.2.2.2,d1];exact rfl)
      |(have q:tvB (hpI a0 a1 a2 a3 a4 a5 a6 a7 a8 a9 aA aB aC aD aE aF aG aH aI aJ aK aL aM aN) a3 a7 ad z=true:=KY hk c3 b;have d1:=Im (a0:=a0) (a2:=a2) (a7:=a7) (ad:=ad) (z:=z) Ud;rw[q,xL h7 i0 i1, <-sr T,xK h8 o0 o1, <-d1];exact rfl)
      |(have q:tvB (hpI a0 a1 a2 a3 a4 a5 a6 a7 a8 a9 aA aB aC aD aE aF aG aH aI aJ aK aL aM aN) a3 a7 ad z=true:=KY hk c3 b;have g0:=Mr (a0:=a0) (a1:=a1) (a2:=a2) (a5:=a5) (a7:=a7) (ad:=ad) (z:=z) Uc;have d1:=Il (a0:=a0) (a2:=a2) (a7:=a7) (ad:=ad) (z:=z) Ud;rw[q,xL h7 i0 i1, <-sr T,xK h8 o0 o1,g0.1,g0.2.1,g0.2.2.1,g0.2.2.2,d1];exact rfl)
      |(have q:tvB (hpI a0 a1 a2 a3 a4 a5 a6 a7 a8 a9 aA aB aC aD aE aF aG aH aI aJ aK aL aM aN) a3 a7 ad z=true:=KY hk c3 b;have d1:=aaM (a0:=a0) (a1:=a1) (a2:=a2) (a5:=a5) (a7:=a7) (ad:=ad) (z:=z) Ud;rw[q,xL h7 i0 i1, <-sr T,xK h8 o0 o1,d1.1,d1.2.1,d1.2.2.1,d1.2.2.2];exact rfl)
      |done)
  |omega
  |exact hp
  |exact hp.hp
  |exact⟨h7,Uc⟩
  |exact⟨h8,Uc⟩
  |exact ga
  |exact DX h7 i0 i1 (by decide)
  |exact AH h7 i0 i1
  |exact aaG h7 i0 i1
  |exact aaF h8 o0 o1
  |exact⟨hp.r0,hp.r2,T.m,Uc,Uc,hm,Uc,Uc⟩
  |(have d1:=Im (a0:=a0) (a2:=a2) (a7:=a7) (ad:=ad) (z:=z) Ud;have y:=Ms hp T kk;rw[xL h7 i0 i1, <-sr T,xK h8 o0 o1, <-d1];exact⟨y.1,y.2,c3,Uc,Uc,Uc,Uc⟩)
  |(have d1:=Il (a0:=a0) (a2:=a2) (a7:=a7) (ad:=ad) (z:=z) Ud;have y:=Ms hp T kk;rw[d1]at y;rw[xL h7 i0 i1, <-sr T,xK h8 o0 o1];exact⟨y.1,y.2,c3,Uc,Uc,Uc,Uc⟩)
  |(show ay _ _=true;kernel_rfl)
  |exact⟨Zd,Zd⟩
  |exact Zd
  |done
end Go.V