/- Contracts. -/
import Derived.Test.YtpldpilhgjpkjaaGreatHoKv
import Derived.Test.YtpldpilhgjpkjaaGreatM5
import Derived.Test.YtpldpilhgjpkjaaGreatW6
set_option linter.all false
open Go
open Act renaming eval->Z1,put->ZT
open And renaming intro->Zb
open Departure renaming mixedOrders->Yw
open Extern.SlicesOverlaps renaming overlaps->XD
open IntKind renaming i64->Za
open List renaming length_nil->Zt,length_eq_one_iff->XE
open True renaming intro->Zd
namespace Go.V
open Go Go.Proofs
set_option maxRecDepth 1000000
set_option maxHeartbeats 8000000
abbrev Zr0:dB:=eg (fun F f=>match f with|157=>dr F|66=>dt F|208=>dt F|92=>ai F|_=>fun _=>none) (by
 intro f;dsimp only;split;exact eG;exact m9;exact nj;exact bc;exact dI)
def jR:EC:=fun F=>fun
 |[.agg [.s 1 ls],.one (.v (.int Za k))]=>some (fun _=>Ns ls,[.k (F.clB ls k)])
 |_=>none
theorem uL:ec 253 jR:=by
 intro _ _ _ h hp;dsimp only[jR,F0]at h;split at h<;>cases h
 rename_i ls k;refine cb Zr0 Tryz.func253 ?_
 intro O r F hO hr hF;cbv
 repeat' first|apply Zb|(apply b8<;>intro hb<;>cbv)
 all_goals(subst hO hr hF;(try simp only[nc]at*);(try simp only[am,SS,sa,az]at*))
 all_goals first
  | (show(_:List DV)=_
     first
      |exact aj (Rb (by assumption)).symm
      |exact aj (Rc (by assumption)).symm
      |exact aj (Re (by assumption)).symm
      |exact aj (Rf (by assumption)).symm
      |done)
  | (show(_:List H)=_
     first
      |done)
  |omega
  |exact fg
  |exact hp
  |(show aw _ _=true;kernel_rfl)
  |exact⟨Zd,Zd⟩
  |exact Zd
  |done
abbrev Zy0:dB:=eg (fun F f=>match f with|331=>dL F|396=>dL F|_=>fun _=>none) (by
 intro f;dsimp only;split;exact o9;exact pe;exact dI)
def gp:EC:=fun F=>fun
 |[.one (.v (.int Za b)),.one (.v (.int Za i))]=>some (fun _=>True,[.j (F.wiN b i)])
 |_=>none
theorem mH:ec 258 gp:=by
 intro _ _ _ h hp;dsimp only[gp,F0]at h;split at h<;>cases h
 rename_i b i;refine cb Zy0 Tryz.func258 ?_
 intro O r F hO hr hF;cbv
 repeat' first|apply Zb|(apply b8<;>intro hb<;>cbv)
 all_goals(subst hO hr hF;(try simp only[nc]at*);(try simp only[am,SS,sa,az]at*);(try have hs:=P2.1 (by assumption:slB b i=true));(try have hw:=BN hs.2.1 hs.2.2);(try simp only[hw]at*))
 all_goals first
  | (show(_:List DV)=_
     first
      |(refine bV ?_;unfold wiN;rw[show slB b i=false from(by assumption)];exact rfl)
      |(refine bV ?_;unfold wiN;rw[VN (by assumption:slB b i=true)])
      |done)
  | (show(_:List H)=_
     first
      |done)
  |omega
  |exact fg
  |(show aw _ _=true;kernel_rfl)
  |exact⟨Zd,Zd⟩
  |exact Zd
  |done
abbrev Zy1:dB:=eg (fun F f=>match f with|278=>cY F|356=>cY F|273=>cF F|361=>cF F|255=>bO F|357=>bO F|296=>co F|43=>bC F|92=>ai F|_=>fun _=>none) (by
 intro f;dsimp only;split;exact mA;exact mK;exact gH;exact jI;exact eF;exact gJ;exact fZ;exact dO;exact bc;exact dI)
def fL:EC:=fun F=>fun
 |[.one (.v (.int Za n)),.one (.v (.int Za b))]=>some (fun _=>True,[.one (.s 1 (F.frL n b))])
 |_=>none
theorem lr:ec 254 fL:=by
 intro _ _ _ h hp;dsimp only[fL,F0]at h;split at h<;>cases h
 rename_i n b;refine cb Zy1 Tryz.func254 ?_
 intro O r F hO hr hF;cbv
 repeat' first|apply Zb|(apply b8<;>intro hb<;>cbv)|(refine⟨[0,1,5,6],[5],Int×af,fun s_=>match s_ with|(i,o)=>[.reg 6 (.j i),.reg 5 (.one (.vw 5 0 0 0 (O.ln o))),.leaf 5 0 ⟨0,0,none,.own (.s 1 o)⟩],fun s_=>match s_ with|(i,o)=>0<=i/\i<=n/\Jt b i o,fun s_=>match s_ with|(i,o)=>(n-i).toNat,⟨(0,[]),?_,?_⟩,?_⟩;rotate_left;(focus (cbv;done));intro s_ hi;obtain⟨i,o⟩:=s_;replace hi:0<=i/\i<=n/\Jt b i o:=hi;obtain⟨i0,i1,i2⟩:=hi;cbv)|(refine ah (O.ar .add Za i 1,o) ?_ ?_ ?_;focus (cbv;done))|(refine ah (O.ar .add Za i 1,O.cat o (O.sub [[.i i]] 0 (O.ln [[.i i]]))) ?_ ?_ ?_;focus (cbv;done))
 all_goals(subst hO hr hF;(try simp only[nc]at*);(try simp only[am,SS,sa,az]at*);(try rw[cJ (by omega) (by omega)]);(try have hb:bmOk n b=true:=(by assumption));(try have rb:=Q1 hb);(try have b1:bK .add Za i 1=i+1:=bT (by omega));(try simp only[b1]at*);(try have il:=Kk i2 i0))
 all_goals first
  | (show(_:List DV)=_
     first
      |exact zx (acw (by assumption)).symm
      |exact zx (Kj i2 hb (by omega) (by omega))
      |done)
  | (show(_:List H)=_
     first
      |done)
  |omega
  |exact fg
  |exact RI
  |exact RJ i2 i0 (by assumption)
  |exact RL i2 i0 (by assumption)
  |(simp only[bM,iR,scal];done)
  |(simp[bM,iR,scal];done)
  |exact Rw.scal (fs:=[tI]) (N7 i2 (by omega)) rfl
  |(simp only[List.length_cons,Zt];omega)
  |(show aw _ _=true;kernel_rfl)
  |exact⟨Zd,Zd⟩
  |exact Zd
  |done
abbrev Zy2:dB:=eg (fun F f=>match f with|135=>cS F|253=>jR F|197=>cS F|_=>fun _=>none) (by
 intro f;dsimp only;split;exact lz;exact uL;exact no;exact dI)
def iq:EC:=fun F=>fun
 |[.agg [.s 1 ls],.one (.v (.int Za k))]=>some (fun _=>Rw [.sl [tI]] ls/\bj ls<=1073741824,[.agg [.s 1 (F.ctL ls k)],.j (F.ctA ls k),.k (F.ctB ls k)])
 |_=>none
theorem qZ:ec 139 iq:=by
 intro _ _ _ h hp;dsimp only[iq,F0]at h;split at h<;>cases h
 rename_i ls k;obtain⟨hw,hc⟩:=hp;have N:=TS hw (by omega);have ln:=av (es:=ls);refine cb Zy2 Tryz.func139 ?_
 intro O r F hO hr hF;cbv
 repeat' first|apply Zb|(apply b8<;>intro hb<;>cbv)
 all_goals(subst hO hr hF;(try simp only[nc]at*);(try simp only[am,SS,sa,az]at*);(try simp only[nU]at*);(try have ht:clB ls k=true:=(by assumption));(try have hi:=LW ht);(try have k1:k<ls.length:=(by omega));(try have hg:=C8 hw hi.1 k1);(try have hz:=Rm (k:=k) ht (by omega));(try have e1:bK .sub Za ((ax ls k 0).length:Int) 1=(ax ls k 0).length-1:=fG (by omega));(try simp only[e1]at*);(try simp only[uq,IX,ad8,List.nil_append]at*);(try have hu:=acn hw hc ht))
 all_goals first
  | (show(_:List DV)=_
     first
      |(have q:=Rk (L2 (by assumption:clB ls k=false));rw[q.1,q.2,L2 (by assumption:clB ls k=false)];exact rfl)
      |(have q:=Rk (L3 (ls:=ls) (k:=k) (by omega));rw[q.1,q.2,L3 (ls:=ls) (k:=k) (by omega)];exact rfl)
      |(rw[hz.1,hz.2.1,hz.2.2,Jb hw hi.1 k1];exact rfl)
      |(rw[hz.1,hz.2.1,hz.2.2];exact rfl)
      |done)
  | (show(_:List H)=_
     first
      |done)
  |omega
  |exact fg
  |exact N
  |exact⟨hw,by omega⟩
  |exact DT hw hi.1 k1
  |exact⟨hi.1,k1⟩
  |exact⟨by omega,by omega,by omega,vE hw hi.1 k1⟩
  |exact⟨Zd,rfl,hu.1,hu.2.1⟩
  |exact⟨hu.1,hu.2.1⟩
  |exact Rw.scal (fs:=[tI]) (Rw.take hg _) rfl
  |(show _/\_;simp only[Zt,List.length_take];omega)
  |exact I7 hw hi.1 k1
  |(rw[show(ax ls k 0).length-1=(((ax ls k 0).length:Int)-1).toNat from by omega];exact fg)
  |(show aw _ _=true;kernel_rfl)
  |exact⟨Zd,Zd⟩
  |exact Zd
  |done
set_option maxRecDepth 100000 in
open Go.Shelf Go.RowKit Go.Lib in
theorem Ct:Gj Tryz.prog 262 38:=by
 intro w W base n c vb vo vc v hnc hm hb hr;have mixed:Tryz.prog.follows Yw=true:=mixed
 go_enter Tryz.func262,Tryz.ntmps262
 rcases base with _|⟨ab,ao,asp⟩
 ·obtain rfl:=hb rfl;obtain rfl:n=0:=by omega
  go_wp2_with (at_builtin;refine dX rfl (lQ rfl rfl rfl hr) ?_)
  go_ret;exact⟨rfl,rfl⟩
 ·go_wp2_with (at_builtin;refine dX rfl (lQ rfl rfl rfl hr) ?_)
  all_goals(go_ret;exact⟨rfl,rfl⟩)
set_option maxRecDepth 100000 in
open Go.Shelf Go.RowKit Go.Lib in
theorem Cy:Gn Tryz.prog 262 38 3:=by
 intro w W1 W2 b off n c i vb vo vc hi hroom hm ho h1 h2;have mixed:Tryz.prog.follows Yw=true:=mixed;have hov:∀ lb cb,(callFunc 335 #[.slice (some ⟨vb,vo,none⟩) 1 vc,.slice (some ⟨b,off+(i+1)*3,none⟩) lb cb]).run Tryz.prog w=.ok (.value (.bool false)) w:=fun lb cb=>by
  rw[run_callFunc_extern Tryz.func335 (by kernel_rfl) (by kernel_rfl) (by kernel_rfl) (e:=XD #[38,38] #[4]) (by kernel_rfl),ho 4 _ Tryz.underlying38 (fun _=>rfl) lb cb];rfl
 clear ho;obtain⟨hb1,hb2,hb3,hb4,hb5,hb7,hb9⟩:=Cu hi hroom hm
 go_enter Tryz.func262,Tryz.ntmps262
 go_wp2_with (simp only[hov])
 go_region_law_o (refine lM rfl (eP rfl (v:=.slice (some ⟨b,off+(i+1)*3,none⟩) (n+1- (i+1)) (c- (i+1))) (u:=.slice (some ⟨b,off+i*3,none⟩) (n+1-i) (c-i)) (by simp[Z1,ZT]) (by simp[Z1,ZT]) (fun ty=>h1 ty _ _)) ?_)
 go_wp2_with (at_builtin;refine dX rfl (eP rfl rfl rfl (fun ty=>h2 ty _)) ?_)
 go_ret
 exact⟨rfl,rfl⟩
set_option maxRecDepth 100000 in
open Go.Shelf Go.RowKit Go.Lib in
theorem Cw:Gl Tryz.prog 262 38 3 3:=by
 intro w W1 W2 W3 N b off n c i vb vo vc g hi hnc hcn hg hm h0 h1 h2;have mixed:Tryz.prog.follows Yw=true:=mixed;obtain⟨hb1,hb2,hb3,hb4,hb5,hb6,hb7,hb8⟩:=Cv hi hnc hcn hg hm
 go_enter Tryz.func262,Tryz.ntmps262
 go_wp2_with (first
  |(at_builtin;refine dX rfl (lQ rfl rfl rfl h0) ?_)
  |(at_builtin;refine dX rfl (eP rfl rfl rfl (fun ty=>h1 ty _)) ?_)
  |(at_builtin;refine dX rfl (eP rfl rfl rfl (fun ty=>h2 ty _ _)) ?_))
 go_region_law_o (refine lM rfl (eP rfl (v:=.slice (some ⟨N,(i+1)*3,none⟩) (n+1- (i+1)) (g- (i+1))) (u:=.slice (some ⟨b,off+i*3,none⟩) (n-i) (c-i)) (by simp[Z1,ZT]) (by simp[Z1,ZT]) (fun ty=>h2 ty _ _)) ?_)
 go_wp2
 go_ret
 exact⟨rfl,rfl⟩
set_option maxRecDepth 100000 in
open Go.Shelf Go.RowKit Go.Lib in
theorem AV:Gj Tryz.prog 145 39:=by
 intro w W base n c vb vo vc v hnc hm hb hr;have mixed:Tryz.prog.follows Yw=true:=mixed
 go_enter Tryz.func145,Tryz.ntmps145
 rcases base with _|⟨ab,ao,asp⟩
 ·obtain rfl:=hb rfl;obtain rfl:n=0:=by omega
  go_wp2_with (at_builtin;refine dX rfl (lQ rfl rfl rfl hr) ?_)
  go_ret;exact⟨rfl,rfl⟩
 ·go_wp2_with (at_builtin;refine dX rfl (lQ rfl rfl rfl hr) ?_)
  all_goals(go_ret;exact⟨rfl,rfl⟩)
set_option maxRecDepth 100000 in
open Go.Shelf Go.RowKit Go.Lib in
theorem AX:Gn Tryz.prog 145 39 3:=by
 intro w W1 W2 b off n c i vb vo vc hi hroom hm ho h1 h2;have mixed:Tryz.prog.follows Yw=true:=mixed;have hov:∀ lb cb,(callFunc 263 #[.slice (some ⟨vb,vo,none⟩) 1 vc,.slice (some ⟨b,off+(i+1)*3,none⟩) lb cb]).run Tryz.prog w=.ok (.value (.bool false)) w:=fun lb cb=>by
  rw[run_callFunc_extern Tryz.func263 (by kernel_rfl) (by kernel_rfl) (by kernel_rfl) (e:=XD #[39,39] #[4]) (by kernel_rfl),ho 4 _ Tryz.underlying39 (fun _=>rfl) lb cb];rfl
 clear ho;obtain⟨hb1,hb2,hb3,hb4,hb5,hb7,hb9⟩:=Cu hi hroom hm
 go_enter Tryz.func145,Tryz.ntmps145
 go_wp2_with (simp only[hov])
 go_region_law_o (refine lM rfl (eP rfl (v:=.slice (some ⟨b,off+(i+1)*3,none⟩) (n+1- (i+1)) (c- (i+1))) (u:=.slice (some ⟨b,off+i*3,none⟩) (n+1-i) (c-i)) (by simp[Z1,ZT]) (by simp[Z1,ZT]) (fun ty=>h1 ty _ _)) ?_)
 go_wp2_with (at_builtin;refine dX rfl (eP rfl rfl rfl (fun ty=>h2 ty _)) ?_)
 go_ret
 exact⟨rfl,rfl⟩
set_option maxRecDepth 100000 in
open Go.Shelf Go.RowKit Go.Lib in
theorem AW:Gl Tryz.prog 145 39 3 3:=by
 intro w W1 W2 W3 N b off n c i vb vo vc g hi hnc hcn hg hm h0 h1 h2;have mixed:Tryz.prog.follows Yw=true:=mixed;obtain⟨hb1,hb2,hb3,hb4,hb5,hb6,hb7,hb8⟩:=Cv hi hnc hcn hg hm
 go_enter Tryz.func145,Tryz.ntmps145
 go_wp2_with (first
  |(at_builtin;refine dX rfl (lQ rfl rfl rfl h0) ?_)
  |(at_builtin;refine dX rfl (eP rfl rfl rfl (fun ty=>h1 ty _)) ?_)
  |(at_builtin;refine dX rfl (eP rfl rfl rfl (fun ty=>h2 ty _ _)) ?_))
 go_region_law_o (refine lM rfl (eP rfl (v:=.slice (some ⟨N,(i+1)*3,none⟩) (n+1- (i+1)) (g- (i+1))) (u:=.slice (some ⟨b,off+i*3,none⟩) (n-i) (c-i)) (by simp[Z1,ZT]) (by simp[Z1,ZT]) (fun ty=>h2 ty _ _)) ?_)
 go_wp2
 go_ret
 exact⟨rfl,rfl⟩
set_option maxRecDepth 100000 in
open Go.Shelf Go.RowKit Go.Lib in
theorem Fw:Gj Tryz.prog 41 40:=by
 intro w W base n c vb vo vc v hnc hm hb hr;have mixed:Tryz.prog.follows Yw=true:=mixed
 go_enter Tryz.func41,Tryz.ntmps41
 rcases base with _|⟨ab,ao,asp⟩
 ·obtain rfl:=hb rfl;obtain rfl:n=0:=by omega
  go_wp2_with (at_builtin;refine dX rfl (lQ rfl rfl rfl hr) ?_)
  go_ret;exact⟨rfl,rfl⟩
 ·go_wp2_with (at_builtin;refine dX rfl (lQ rfl rfl rfl hr) ?_)
  all_goals(go_ret;exact⟨rfl,rfl⟩)
set_option maxRecDepth 100000 in
open Go.Shelf Go.RowKit Go.Lib in
theorem Fy:Gn Tryz.prog 41 40 4:=by
 intro w W1 W2 b off n c i vb vo vc hi hroom hm ho h1 h2;have mixed:Tryz.prog.follows Yw=true:=mixed;have hov:∀ lb cb,(callFunc 146 #[.slice (some ⟨vb,vo,none⟩) 1 vc,.slice (some ⟨b,off+(i+1)*4,none⟩) lb cb]).run Tryz.prog w=.ok (.value (.bool false)) w:=fun lb cb=>by
  rw[run_callFunc_extern Tryz.func146 (by kernel_rfl) (by kernel_rfl) (by kernel_rfl) (e:=XD #[40,40] #[4]) (by kernel_rfl),ho 4 _ Tryz.underlying40 (fun _=>rfl) lb cb];rfl
 clear ho;obtain⟨hb1,hb2,hb3,hb4,hb5,hb7,hb9⟩:=Cu hi hroom hm
 go_enter Tryz.func41,Tryz.ntmps41
 go_wp2_with (simp only[hov])
 go_region_law_o (refine lM rfl (eP rfl (v:=.slice (some ⟨b,off+(i+1)*4,none⟩) (n+1- (i+1)) (c- (i+1))) (u:=.slice (some ⟨b,off+i*4,none⟩) (n+1-i) (c-i)) (by simp[Z1,ZT]) (by simp[Z1,ZT]) (fun ty=>h1 ty _ _)) ?_)
 go_wp2_with (at_builtin;refine dX rfl (eP rfl rfl rfl (fun ty=>h2 ty _)) ?_)
 go_ret
 exact⟨rfl,rfl⟩
set_option maxRecDepth 100000 in
open Go.Shelf Go.RowKit Go.Lib in
theorem Fx:Gl Tryz.prog 41 40 3 4:=by
 intro w W1 W2 W3 N b off n c i vb vo vc g hi hnc hcn hg hm h0 h1 h2;have mixed:Tryz.prog.follows Yw=true:=mixed;obtain⟨hb1,hb2,hb3,hb4,hb5,hb6,hb7,hb8⟩:=Cv hi hnc hcn hg hm
 go_enter Tryz.func41,Tryz.ntmps41
 go_wp2_with (first
  |(at_builtin;refine dX rfl (lQ rfl rfl rfl h0) ?_)
  |(at_builtin;refine dX rfl (eP rfl rfl rfl (fun ty=>h1 ty _)) ?_)
  |(at_builtin;refine dX rfl (eP rfl rfl rfl (fun ty=>h2 ty _ _)) ?_))
 go_region_law_o (refine lM rfl (eP rfl (v:=.slice (some ⟨N,(i+1)*4,none⟩) (n+1- (i+1)) (g- (i+1))) (u:=.slice (some ⟨b,off+i*4,none⟩) (n-i) (c-i)) (by simp[Z1,ZT]) (by simp[Z1,ZT]) (fun ty=>h2 ty _ _)) ?_)
 go_wp2
 go_ret
 exact⟨rfl,rfl⟩
def ap:EO:=fun F=>fun
 |[.one (.s 3 es),.one (.v (.int Za i)),.one (.s 3 x)]=>some (fun _=>0<=i/\i<=es.length/\es.length<=1073741824/\bM es/\bM x/\x.length=1,[.one (.s 3 (F.inL es i x))])
 |_=>none
theorem cD:eo 262 ap:=by
 intro _ _ _ h hp;dsimp only[ap,F0]at h;split at h<;>cases h
 rename_i es i x;obtain⟨i0,i1,l,s1,s2,x1⟩:=hp;obtain⟨r,rfl⟩:=XE.1 x1;exact vW (sz:=3) tc rfl rfl (by decide) Tryz.underlying3 Ct Cy Cw ⟨i0,i1,l⟩ s1 s2
theorem cv:eo 145 ap:=by
 intro _ _ _ h hp;dsimp only[ap,F0]at h;split at h<;>cases h
 rename_i es i x;obtain⟨i0,i1,l,s1,s2,x1⟩:=hp;obtain⟨r,rfl⟩:=XE.1 x1;exact vW (sz:=3) tc rfl rfl (by decide) Tryz.underlying3 AV AX AW ⟨i0,i1,l⟩ s1 s2
def bu:EO:=fun F=>fun
 |[.one (.s 4 es),.one (.v (.int Za i)),.one (.s 4 x)]=>some (fun _=>0<=i/\i<=es.length/\es.length<=1073741824/\bM es/\bM x/\x.length=1,[.one (.s 4 (F.inL es i x))])
 |_=>none
theorem cI:eo 41 bu:=by
 intro _ _ _ h hp;dsimp only[bu,F0]at h;split at h<;>cases h
 rename_i es i x;obtain⟨i0,i1,l,s1,s2,x1⟩:=hp;obtain⟨r,rfl⟩:=XE.1 x1;exact vW (sz:=4) tc rfl rfl (by decide) Tryz.underlying3 Fw Fy Fx ⟨i0,i1,l⟩ s1 s2
end Go.V