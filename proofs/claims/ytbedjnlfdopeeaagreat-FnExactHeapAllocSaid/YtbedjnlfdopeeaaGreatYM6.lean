/- Contracts. -/
import Derived.Test.YtbedjnlfdopeeaaGreatYHoKu
import Derived.Test.YtbedjnlfdopeeaaGreatYM5
import Derived.Test.YtbedjnlfdopeeaaGreatYW6
set_option linter.all false
open Go
open Act renaming eval->Z5,put->ZS
open And renaming intro->Zb
open Departure renaming mixedOrders->YB
open Extern.SlicesOverlaps renaming overlaps->XL
open IntKind renaming i64->Za
open List renaming length_cons->Zp,length_nil->Zs,length_eq_one_iff->XM
open True renaming intro->Zf
namespace Go.V
open Go Go.Proofs
set_option maxRecDepth 1000000
set_option maxHeartbeats 8000000
abbrev Zr0:cZ:=eK (fun F f=>match f with|193=>dN F|130=>dO F|171=>dO F|28=>aj F|_=>fun _=>none) (by
 intro f;dsimp only;split;exact fA;exact qC;exact qG;exact bi;exact db)
def fC:EC:=fun F=>fun
 |[.agg [.s 1 ls],.one (.v (.int Za k))]=>some (fun _=>SA ls,[.k (F.clB ls k)])
 |_=>none
theorem yV:ec 282 fC:=by
 intro _ _ _ h hp;dsimp only[fC,F0]at h;split at h<;>cases h
 rename_i ls k;refine cb Zr0 Tryz.func282 ?_
 exact afs
theorem Dr:ec 339 fC:=by
 intro _ _ _ h hp;dsimp only[fC,F0]at h;split at h<;>cases h
 rename_i ls k;refine cb Zr0 Tryz.func339 ?_
 exact afs
abbrev Zy0:cZ:=eK (fun F f=>match f with|321=>d5 F|358=>d5 F|_=>fun _=>none) (by
 intro f;dsimp only;split;exact sv;exact sC;exact db)
def dt:EC:=fun F=>fun
 |[.one (.v (.int Za b)),.one (.v (.int Za i))]=>some (fun _=>True,[.j (F.wiN b i)])
 |_=>none
theorem pR:ec 293 dt:=by
 intro _ _ _ h hp;dsimp only[dt,F0]at h;split at h<;>cases h
 rename_i b i;refine cb Zy0 Tryz.func293 ?_
 exact afm
theorem qa:ec 345 dt:=by
 intro _ _ _ h hp;dsimp only[dt,F0]at h;split at h<;>cases h
 rename_i b i;refine cb Zy0 Tryz.func345 ?_
 exact afm
abbrev Zy1:cZ:=eK (fun F f=>match f with|316=>dk F|332=>dk F|242=>cF F|305=>cF F|290=>bV F|333=>bV F|259=>co F|183=>bD F|28=>aj F|_=>fun _=>none) (by
 intro f;dsimp only;split;exact pJ;exact pT;exact iL;exact lT;exact fy;exact iO;exact ia;exact d8;exact bi;exact db)
def cX:EC:=fun F=>fun
 |[.one (.v (.int Za n)),.one (.v (.int Za b))]=>some (fun _=>True,[.one (.s 1 (F.frL n b))])
 |_=>none
theorem oE:ec 289 cX:=by
 intro _ _ _ h hp;dsimp only[cX,F0]at h;split at h<;>cases h
 rename_i n b;refine cb Zy1 Tryz.func289 ?_
 intro O r F hO hr hF;cbv
 repeat' first|apply Zb|(apply bG<;>intro hb<;>cbv)|(refine⟨[0,1,5,6],[5],Int×af,fun s_=>match s_ with|(i,o)=>[.reg 6 (.j i),.reg 5 (.one (.vw 5 0 0 0 (O.ln o))),.leaf 5 0 ⟨0,0,none,.own (.s 1 o)⟩],fun s_=>match s_ with|(i,o)=>0<=i/\i<=n/\JG b i o,fun s_=>match s_ with|(i,o)=>(n-i).toNat,⟨(0,[]),?_,?_⟩,?_⟩;rotate_left;(focus (cbv;done));intro s_ hi;obtain⟨i,o⟩:=s_;replace hi:0<=i/\i<=n/\JG b i o:=hi;obtain⟨i0,i1,i2⟩:=hi;cbv)|(refine ag (O.ar .add Za i 1,o) ?_ ?_ ?_;focus (cbv;done))|(refine ag (O.ar .add Za i 1,O.cat o (O.sub [[.i i]] 0 (O.ln [[.i i]]))) ?_ ?_ ?_;focus (cbv;done))
 all_goals(subst hO hr hF;(try simp only[nc]at*);(try simp only[ai,SS,sa,az]at*);(try rw[cQ (by omega) (by omega)]);(try have hb:bmOk n b=true:=(by assumption));(try have rb:=Og hb);(try have b1:bO .add Za i 1=i+1:=bF (by omega));(try simp only[b1]at*);(try have il:=IJ i2 i0))
 all_goals first
  | (show(_:List DV)=_
     first
      |exact yB (ach (by assumption)).symm
      |exact yB (II i2 hb (by omega) (by omega))
      |done)
  | (show(_:List H)=_
     first
      |done)
  |omega
  |exact fU
  |exact QT
  |exact QU i2 i0 (by assumption)
  |exact QV i2 i0 (by assumption)
  |(simp only[bJ,gX,scal];done)
  |(simp[bJ,gX,scal];done)
  |exact Rw.scal (fs:=[tI]) (Lv i2 (by omega)) rfl
  |(simp only[Zp,Zs];omega)
  |(show aP _ _=true;kernel_rfl)
  |exact⟨Zf,Zf⟩
  |exact Zf
  |done
theorem oI:ec 342 cX:=by
 intro _ _ _ h hp;dsimp only[cX,F0]at h;split at h<;>cases h
 rename_i n b;refine cb Zy1 Tryz.func342 ?_
 intro O r F hO hr hF;cbv
 repeat' first|apply Zb|(apply bG<;>intro hb<;>cbv)|(refine⟨[0,1,5,6],[5],Int×af,fun s_=>match s_ with|(i,o)=>[.reg 6 (.j i),.reg 5 (.one (.vw 5 0 0 0 (O.ln o))),.leaf 5 0 ⟨0,0,none,.own (.s 1 o)⟩],fun s_=>match s_ with|(i,o)=>0<=i/\(i=0\/bmOk n b=true)/\(i=0\/i<=n)/\JG b i o,fun s_=>match s_ with|(i,o)=>(n-i).toNat,⟨(0,[]),?_,?_⟩,?_⟩;rotate_left;(focus (cbv;done));intro s_ hi;obtain⟨i,o⟩:=s_;replace hi:0<=i/\(i=0\/bmOk n b=true)/\(i=0\/i<=n)/\JG b i o:=hi;obtain⟨i0,i1,i2,i3⟩:=hi;cbv)|(refine ag (O.ar .add Za i 1,o) ?_ ?_ ?_;focus (cbv;done))|(refine ag (O.ar .add Za i 1,O.cat o (O.sub [[.i i]] 0 (O.ln [[.i i]]))) ?_ ?_ ?_;focus (cbv;done))
 all_goals(subst hO hr hF;(try simp only[nc]at*);(try simp only[ai,SS,sa,az]at*);(try rw[cQ (by omega) (by omega)]);(try have hb:bmOk n b=true:=(by assumption));(try have rb:=Og hb);(try have b1:bO .add Za i 1=i+1:=bF (by omega));(try simp only[b1]at*);(try have il:=IJ i3 i0))
 all_goals first
  | (show(_:List DV)=_
     first
      |exact yB (Lu i0 i1 i2 i3 (.inl (by assumption)))
      |exact yB (Lu i0 i1 i2 i3 (.inr (by omega)))
      |done)
  | (show(_:List H)=_
     first
      |done)
  |omega
  |exact fU
  |exact QT
  |exact QU i3 i0 (by assumption)
  |exact QV i3 i0 (by assumption)
  |(simp only[bJ,gX,scal];done)
  |(simp[bJ,gX,scal];done)
  |exact Rw.scal (fs:=[tI]) (Lv i3 (by omega)) rfl
  |(simp only[Zp,Zs];omega)
  |exact .inr hb
  |exact .inr (by omega)
  |exact .inl rfl
  |(show aP _ _=true;kernel_rfl)
  |exact⟨Zf,Zf⟩
  |exact Zf
  |done
theorem pY:ec 346 cR:=by
 intro _ _ _ h hp;dsimp only[cR,F0]at h;split at h<;>cases h
 rename_i p k b s;refine cb Zy1 Tryz.func346 ?_
 intro O r F hO hr hF;cbv
 repeat' first|apply Zb|(apply bG<;>intro hb<;>cbv)
 all_goals(subst hO hr hF;(try simp only[nc]at*);(try simp only[ai,SS,sa,az]at*);(try(have t:=oz (p:=p) (k:=k) (b:=b) (by assumption);have c:=j8 t.2.2.1;have e:bO .sub Za (slN k) 1=slN k-1:=di (by omega);try simp only[e]at*)))
 all_goals first
  | (show(_:List DV)=_
     first
      |exact cv (KH (by assumption) (by assumption))
      |exact cv (Il (.inl (by assumption))).symm
      |exact cv (Il (.inr (by assumption))).symm
      |done)
  | (show(_:List H)=_
     first
      |done)
  |omega
  |exact fU
  |(show aP _ _=true;kernel_rfl)
  |exact⟨Zf,Zf⟩
  |exact Zf
  |done
abbrev Zy2:cZ:=eK (fun F f=>match f with|120=>cY F|282=>fC F|101=>cY F|339=>fC F|_=>fun _=>none) (by
 intro f;dsimp only;split;exact oF;exact yV;exact qJ;exact Dr;exact db)
def d9:EC:=fun F=>fun
 |[.agg [.s 1 ls],.one (.v (.int Za k))]=>some (fun _=>Rw [.sl [tI]] ls/\am ls<=1073741824,[.agg [.s 1 (F.ctL ls k)],.j (F.ctA ls k),.k (F.ctB ls k)])
 |_=>none
theorem uT:ec 201 d9:=by
 intro _ _ _ h hp;dsimp only[d9,F0]at h;split at h<;>cases h
 rename_i ls k;obtain⟨hw,hc⟩:=hp;have N:=Ro hw (by omega);have ln:=aw (es:=ls);refine cb Zy2 Tryz.func201 ?_
 exact aff
theorem vu:ec 283 d9:=by
 intro _ _ _ h hp;dsimp only[d9,F0]at h;split at h<;>cases h
 rename_i ls k;obtain⟨hw,hc⟩:=hp;have N:=Ro hw (by omega);have ln:=aw (es:=ls);refine cb Zy2 Tryz.func283 ?_
 exact aff
set_option maxRecDepth 100000 in
open Go.Shelf Go.RowKit Go.Lib in
theorem Hn:Kv Tryz.prog 297 61:=by
 intro w W base n c vb vo vc v hnc hm hb hr;have mixed:Tryz.prog.follows YB=true:=mixed
 go_enter Tryz.func297,Tryz.ntmps297
 rcases base with _|⟨ab,ao,asp⟩
 ·obtain rfl:=hb rfl;obtain rfl:n=0:=by omega
  go_wp2_with (at_builtin;refine eJ rfl (oY rfl rfl rfl hr) ?_)
  go_ret;exact⟨rfl,rfl⟩
 ·go_wp2_with (at_builtin;refine eJ rfl (oY rfl rfl rfl hr) ?_)
  all_goals(go_ret;exact⟨rfl,rfl⟩)
set_option maxRecDepth 100000 in
open Go.Shelf Go.RowKit Go.Lib in
theorem Hr:Kx Tryz.prog 297 61 3:=by
 intro w W1 W2 b off n c i vb vo vc hi hroom hm ho h1 h2;have mixed:Tryz.prog.follows YB=true:=mixed;have hov:∀ lb cb,(callFunc 354 #[.slice (some ⟨vb,vo,none⟩) 1 vc,.slice (some ⟨b,off+(i+1)*3,none⟩) lb cb]).run Tryz.prog w=.ok (.value (.bool false)) w:=fun lb cb=>by
  rw[run_callFunc_extern Tryz.func354 (by kernel_rfl) (by kernel_rfl) (by kernel_rfl) (e:=XL #[61,61] #[4]) (by kernel_rfl),ho 4 _ Tryz.underlying61 (fun _=>rfl) lb cb];rfl
 clear ho;obtain⟨hb1,hb2,hb3,hb4,hb5,hb7,hb9⟩:=Ho hi hroom hm
 go_enter Tryz.func297,Tryz.ntmps297
 go_wp2_with (simp only[hov])
 go_region_law_o (refine oS rfl (fP rfl (v:=.slice (some ⟨b,off+(i+1)*3,none⟩) (n+1- (i+1)) (c- (i+1))) (u:=.slice (some ⟨b,off+i*3,none⟩) (n+1-i) (c-i)) (by simp[Z5,ZS]) (by simp[Z5,ZS]) (fun ty=>h1 ty _ _)) ?_)
 go_wp2_with (at_builtin;refine eJ rfl (fP rfl rfl rfl (fun ty=>h2 ty _)) ?_)
 go_ret
 exact⟨rfl,rfl⟩
set_option maxRecDepth 100000 in
open Go.Shelf Go.RowKit Go.Lib in
theorem Hq:Kw Tryz.prog 297 61 3 3:=by
 intro w W1 W2 W3 N b off n c i vb vo vc g hi hnc hcn hg hm h0 h1 h2;have mixed:Tryz.prog.follows YB=true:=mixed;obtain⟨hb1,hb2,hb3,hb4,hb5,hb6,hb7,hb8⟩:=Hp hi hnc hcn hg hm
 go_enter Tryz.func297,Tryz.ntmps297
 go_wp2_with (first
  |(at_builtin;refine eJ rfl (oY rfl rfl rfl h0) ?_)
  |(at_builtin;refine eJ rfl (fP rfl rfl rfl (fun ty=>h1 ty _)) ?_)
  |(at_builtin;refine eJ rfl (fP rfl rfl rfl (fun ty=>h2 ty _ _)) ?_))
 go_region_law_o (refine oS rfl (fP rfl (v:=.slice (some ⟨N,(i+1)*3,none⟩) (n+1- (i+1)) (g- (i+1))) (u:=.slice (some ⟨b,off+i*3,none⟩) (n-i) (c-i)) (by simp[Z5,ZS]) (by simp[Z5,ZS]) (fun ty=>h2 ty _ _)) ?_)
 go_wp2
 go_ret
 exact⟨rfl,rfl⟩
set_option maxRecDepth 100000 in
open Go.Shelf Go.RowKit Go.Lib in
theorem FD:Kv Tryz.prog 206 62:=by
 intro w W base n c vb vo vc v hnc hm hb hr;have mixed:Tryz.prog.follows YB=true:=mixed
 go_enter Tryz.func206,Tryz.ntmps206
 rcases base with _|⟨ab,ao,asp⟩
 ·obtain rfl:=hb rfl;obtain rfl:n=0:=by omega
  go_wp2_with (at_builtin;refine eJ rfl (oY rfl rfl rfl hr) ?_)
  go_ret;exact⟨rfl,rfl⟩
 ·go_wp2_with (at_builtin;refine eJ rfl (oY rfl rfl rfl hr) ?_)
  all_goals(go_ret;exact⟨rfl,rfl⟩)
set_option maxRecDepth 100000 in
open Go.Shelf Go.RowKit Go.Lib in
theorem FF:Kx Tryz.prog 206 62 3:=by
 intro w W1 W2 b off n c i vb vo vc hi hroom hm ho h1 h2;have mixed:Tryz.prog.follows YB=true:=mixed;have hov:∀ lb cb,(callFunc 298 #[.slice (some ⟨vb,vo,none⟩) 1 vc,.slice (some ⟨b,off+(i+1)*3,none⟩) lb cb]).run Tryz.prog w=.ok (.value (.bool false)) w:=fun lb cb=>by
  rw[run_callFunc_extern Tryz.func298 (by kernel_rfl) (by kernel_rfl) (by kernel_rfl) (e:=XL #[62,62] #[4]) (by kernel_rfl),ho 4 _ Tryz.underlying62 (fun _=>rfl) lb cb];rfl
 clear ho;obtain⟨hb1,hb2,hb3,hb4,hb5,hb7,hb9⟩:=Ho hi hroom hm
 go_enter Tryz.func206,Tryz.ntmps206
 go_wp2_with (simp only[hov])
 go_region_law_o (refine oS rfl (fP rfl (v:=.slice (some ⟨b,off+(i+1)*3,none⟩) (n+1- (i+1)) (c- (i+1))) (u:=.slice (some ⟨b,off+i*3,none⟩) (n+1-i) (c-i)) (by simp[Z5,ZS]) (by simp[Z5,ZS]) (fun ty=>h1 ty _ _)) ?_)
 go_wp2_with (at_builtin;refine eJ rfl (fP rfl rfl rfl (fun ty=>h2 ty _)) ?_)
 go_ret
 exact⟨rfl,rfl⟩
set_option maxRecDepth 100000 in
open Go.Shelf Go.RowKit Go.Lib in
theorem FE:Kw Tryz.prog 206 62 3 3:=by
 intro w W1 W2 W3 N b off n c i vb vo vc g hi hnc hcn hg hm h0 h1 h2;have mixed:Tryz.prog.follows YB=true:=mixed;obtain⟨hb1,hb2,hb3,hb4,hb5,hb6,hb7,hb8⟩:=Hp hi hnc hcn hg hm
 go_enter Tryz.func206,Tryz.ntmps206
 go_wp2_with (first
  |(at_builtin;refine eJ rfl (oY rfl rfl rfl h0) ?_)
  |(at_builtin;refine eJ rfl (fP rfl rfl rfl (fun ty=>h1 ty _)) ?_)
  |(at_builtin;refine eJ rfl (fP rfl rfl rfl (fun ty=>h2 ty _ _)) ?_))
 go_region_law_o (refine oS rfl (fP rfl (v:=.slice (some ⟨N,(i+1)*3,none⟩) (n+1- (i+1)) (g- (i+1))) (u:=.slice (some ⟨b,off+i*3,none⟩) (n-i) (c-i)) (by simp[Z5,ZS]) (by simp[Z5,ZS]) (fun ty=>h2 ty _ _)) ?_)
 go_wp2
 go_ret
 exact⟨rfl,rfl⟩
set_option maxRecDepth 100000 in
open Go.Shelf Go.RowKit Go.Lib in
theorem JR:Kv Tryz.prog 92 63:=by
 intro w W base n c vb vo vc v hnc hm hb hr;have mixed:Tryz.prog.follows YB=true:=mixed
 go_enter Tryz.func92,Tryz.ntmps92
 rcases base with _|⟨ab,ao,asp⟩
 ·obtain rfl:=hb rfl;obtain rfl:n=0:=by omega
  go_wp2_with (at_builtin;refine eJ rfl (oY rfl rfl rfl hr) ?_)
  go_ret;exact⟨rfl,rfl⟩
 ·go_wp2_with (at_builtin;refine eJ rfl (oY rfl rfl rfl hr) ?_)
  all_goals(go_ret;exact⟨rfl,rfl⟩)
set_option maxRecDepth 100000 in
open Go.Shelf Go.RowKit Go.Lib in
theorem JU:Kx Tryz.prog 92 63 4:=by
 intro w W1 W2 b off n c i vb vo vc hi hroom hm ho h1 h2;have mixed:Tryz.prog.follows YB=true:=mixed;have hov:∀ lb cb,(callFunc 207 #[.slice (some ⟨vb,vo,none⟩) 1 vc,.slice (some ⟨b,off+(i+1)*4,none⟩) lb cb]).run Tryz.prog w=.ok (.value (.bool false)) w:=fun lb cb=>by
  rw[run_callFunc_extern Tryz.func207 (by kernel_rfl) (by kernel_rfl) (by kernel_rfl) (e:=XL #[63,63] #[4]) (by kernel_rfl),ho 4 _ Tryz.underlying63 (fun _=>rfl) lb cb];rfl
 clear ho;obtain⟨hb1,hb2,hb3,hb4,hb5,hb7,hb9⟩:=Ho hi hroom hm
 go_enter Tryz.func92,Tryz.ntmps92
 go_wp2_with (simp only[hov])
 go_region_law_o (refine oS rfl (fP rfl (v:=.slice (some ⟨b,off+(i+1)*4,none⟩) (n+1- (i+1)) (c- (i+1))) (u:=.slice (some ⟨b,off+i*4,none⟩) (n+1-i) (c-i)) (by simp[Z5,ZS]) (by simp[Z5,ZS]) (fun ty=>h1 ty _ _)) ?_)
 go_wp2_with (at_builtin;refine eJ rfl (fP rfl rfl rfl (fun ty=>h2 ty _)) ?_)
 go_ret
 exact⟨rfl,rfl⟩
set_option maxRecDepth 100000 in
open Go.Shelf Go.RowKit Go.Lib in
theorem JS:Kw Tryz.prog 92 63 3 4:=by
 intro w W1 W2 W3 N b off n c i vb vo vc g hi hnc hcn hg hm h0 h1 h2;have mixed:Tryz.prog.follows YB=true:=mixed;obtain⟨hb1,hb2,hb3,hb4,hb5,hb6,hb7,hb8⟩:=Hp hi hnc hcn hg hm
 go_enter Tryz.func92,Tryz.ntmps92
 go_wp2_with (first
  |(at_builtin;refine eJ rfl (oY rfl rfl rfl h0) ?_)
  |(at_builtin;refine eJ rfl (fP rfl rfl rfl (fun ty=>h1 ty _)) ?_)
  |(at_builtin;refine eJ rfl (fP rfl rfl rfl (fun ty=>h2 ty _ _)) ?_))
 go_region_law_o (refine oS rfl (fP rfl (v:=.slice (some ⟨N,(i+1)*4,none⟩) (n+1- (i+1)) (g- (i+1))) (u:=.slice (some ⟨b,off+i*4,none⟩) (n-i) (c-i)) (by simp[Z5,ZS]) (by simp[Z5,ZS]) (fun ty=>h2 ty _ _)) ?_)
 go_wp2
 go_ret
 exact⟨rfl,rfl⟩
def av:EO:=fun F=>fun
 |[.one (.s 3 es),.one (.v (.int Za i)),.one (.s 3 x)]=>some (fun _=>0<=i/\i<=es.length/\es.length<=1073741824/\bJ es/\bJ x/\x.length=1,[.one (.s 3 (F.inL es i x))])
 |_=>none
theorem cE:eo 297 av:=by
 intro _ _ _ h hp;dsimp only[av,F0]at h;split at h<;>cases h
 rename_i es i x;obtain⟨i0,i1,l,s1,s2,x1⟩:=hp;obtain⟨r,rfl⟩:=XM.1 x1;exact AI (sz:=3) uC rfl rfl (by decide) Tryz.underlying3 Hn Hr Hq ⟨i0,i1,l⟩ s1 s2
theorem cu:eo 206 av:=by
 intro _ _ _ h hp;dsimp only[av,F0]at h;split at h<;>cases h
 rename_i es i x;obtain⟨i0,i1,l,s1,s2,x1⟩:=hp;obtain⟨r,rfl⟩:=XM.1 x1;exact AI (sz:=3) uC rfl rfl (by decide) Tryz.underlying3 FD FF FE ⟨i0,i1,l⟩ s1 s2
def bu:EO:=fun F=>fun
 |[.one (.s 4 es),.one (.v (.int Za i)),.one (.s 4 x)]=>some (fun _=>0<=i/\i<=es.length/\es.length<=1073741824/\bJ es/\bJ x/\x.length=1,[.one (.s 4 (F.inL es i x))])
 |_=>none
theorem cJ:eo 92 bu:=by
 intro _ _ _ h hp;dsimp only[bu,F0]at h;split at h<;>cases h
 rename_i es i x;obtain⟨i0,i1,l,s1,s2,x1⟩:=hp;obtain⟨r,rfl⟩:=XM.1 x1;exact AI (sz:=4) uC rfl rfl (by decide) Tryz.underlying3 JR JU JS ⟨i0,i1,l⟩ s1 s2
end Go.V