/- Contracts. -/
import Derived.Test.YtpldpilhgjpkjaaGreatXM4
set_option linter.all false
open Go
open Act renaming eval->ZK,put->ZI
open And renaming intro->Zd
open Departure renaming mixedOrders->Yq
open IntKind renaming i64->Zs,i64->Za
open List renaming all_eq_true->Z6,length_nil->Zk,length_append->Zf,length_take->Zh,length_drop->Zn,length_set->Zw
open True renaming intro->Zb
open Value renaming int->Zi
namespace Go.V
open Go Go.Proofs
set_option maxRecDepth 1000000
set_option maxHeartbeats 8000000
abbrev Zx0:dp:=d4 (fun F f=>match f with|267=>fg F|188=>gE F|_=>fun _=>none) (by
 intro f;dsimp only;split;exact lD;exact nF;exact dB)
def iN:EC:=fun F=>fun
 |[.agg [.s 1 cs,.s 1 us]]=>some (fun _=>Rw [.sl [tI]] cs/\Rw [tB] us/\ap cs<=1099511627776/\ap us<=1099511627776,[.agg [.s 1 cs,.s 1 (F.ftU cs us)],.j (F.ftI cs us),.k (F.ftB cs us)])
 |_=>none
theorem rS:ec 334 iN:=by
 intro _ _ _ h hp;dsimp only[iN,F0]at h;split at h<;>cases h
 rename_i cs us;obtain⟨hc,hu,hn,hm⟩:=hp;have hul:=aO (es:=us);refine cb Zx0 Tryz.func334 ?_
 intro O r F hO hr hF;cbv
 repeat' first|apply Zd|(apply cP<;>intro hb<;>cbv)|(refine⟨[2,5,13,14,15],[2,5,13],Int,fun i=>[.reg 15 (.j i)],fun i=>0<=i/\i<=((us.length:Nat):Int)/\upto (yH us) i,fun i=>(us.length)-i.toNat,⟨0,?_,?_⟩,?_⟩;rotate_left;(focus (cbv;done));intro i hi;replace hi:0<=i/\i<=((us.length:Nat):Int)/\upto (yH us) i:=hi;obtain⟨i0,i1,i2⟩:=hi;cbv)|(refine ah (O.ar .add Za i 1) ?_ ?_ ?_;focus (cbv;done))
 all_goals(subst hO hr hF;(try simp only[nc]at*);(try simp only[aj,SS,sa,az]at*);(try rw[dx (by omega) (by omega)]))
 all_goals first|omega|(show ax _ _=true;kernel_rfl)|exact⟨hc,hu,hn,hm⟩|exact⟨hc,hu⟩|exact fK|(first|assumption|exact Rw.sub (by first|assumption|exact Rw.sub (by assumption) (by omega) rfl) (by omega) rfl)|exact cg|exact bN i2 (by assumption)|exact aaD hu i0 (by omega)|(have q:=Ng (cs:=cs) (us:=us) (.inl (by assumption));exact H1 rfl q.2.2.symm q.2.1.symm q.1.symm)|(have q:=Ng (cs:=cs) (us:=us) (.inr (KY i2 (by omega)));exact H1 rfl q.2.2.symm q.2.1.symm q.1.symm)|(have q:=H2 (by assumption) i0 (free_at i2 i0 (by omega) (by assumption));exact H1 rfl ((af8 hu i0 (by omega)).trans q.2.2.symm) q.2.1.symm q.1.symm)|exact⟨Zb,Zb⟩|exact Zb|done
abbrev Zx2:dp:=d4 (fun F f=>match f with|133=>dr F|269=>ia F|333=>kK F|170=>gy F|33=>ay F|334=>iN F|_=>fun _=>none) (by
 intro f;dsimp only;split;exact fc;exact oc;exact vB;exact lO;exact aS;exact rS;exact dB)
def kC:EC:=fun F=>fun
 |[.agg [.s 1 cs,.s 1 us,.s 2 es,.v (.int Za c),.s 1 rs],.one (.v (.int Za p))]=>some (fun _=>Rw [.sl [tI]] cs/\Rw [tB] us/\Rw [tI,tI] es/\Rw [tI] rs/\ap cs<=1099511627776/\ap us<=1099511627776/\ap es<=1099511627776/\ap rs<=1099511627776,[.agg [.s 1 cs,.s 1 (F.kwU (F.ccB cs us es c rs) us es c rs p),.s 2 (F.kwE (F.ccB cs us es c rs) us es c rs p),.i (F.kqN (F.ccB cs us es c rs) c),.s 1 rs],.k (F.kwB (F.ccB cs us es c rs) us es c rs p)])
 |_=>none
theorem vm:ec 261 kC:=by
 intro _ _ _ h hp;dsimp only[kC,F0]at h;split at h<;>cases h
 rename_i cs us es c rs p;obtain⟨wc,wu,we,wr,k1,k2,k3,k4⟩:=hp;have l3:=aO (es:=es);have l2:=aO (es:=us);have e0:bO .sub Za (es.length:Int) 1=es.length-1:=gg (by omega);refine cb Zx2 Tryz.func261 ?_
 intro O r F hO hr hF;cbv
 repeat' first|apply Zd|(apply cP<;>intro hb<;>cbv)
 all_goals(subst hO hr hF;(try simp only[nc]at*);(try simp only[aj,SS,sa,az]at*);(try simp only[e0]at*);(try have cc:=MQ (cs:=cs) (us:=us) (es:=es) (c:=c) (rs:=rs) (by assumption));(try have kr:=jt cc.2);(try have km:=kr.1);(try have c0:=kr.2.1);(try have c1:=kr.2.2.1);(try have fo:framesOk cs us=true:=Qr cc.2);(try have fb:=aax fo (by assumption:ftB cs us=true));(try have fi:=fb.2.1);(try have f0:=fb.2.2.1);(try simp only[fi]at*);(try have f1:=fb.2.2.2);(try have pr:=be.1 (by assumption:inR p 0 (es.length-1)=true)))
 all_goals first
  | (show(_:List DV)=_
     first
      |(rw[show ccB cs us es c rs=false from(by assumption)];exact rfl)
      |(have q:=ae6 (us:=us) (es:=es) (p:=p) (abO (by assumption));rw[show ccB cs us es c rs=true from(by assumption)];exact Bt rfl (sC q).1 (sC q).2.1 rfl rfl (sC q).2.2)
      |(have q:=ae7 (es:=es) (c:=c) (rs:=rs) (p:=p) (aay fo (by assumption));rw[show ccB cs us es c rs=true from(by assumption)];exact Bt rfl (sC q).1 (sC q).2.1 rfl rfl (sC q).2.2)
      |(have q:=ae8 (us:=us) (c:=c) (rs:=rs) (by assumption);rw[show ccB cs us es c rs=true from(by assumption)];exact Bt rfl (sC q).1 (sC q).2.1 rfl rfl (sC q).2.2)
      |(have q:=ae9 (us:=us) (c:=c) (rs:=rs) (VV (by assumption:mapB es p=true));rw[show ccB cs us es c rs=true from(by assumption)];exact Bt rfl (sC q).1 (sC q).2.1 rfl rfl (sC q).2.2)
      |(have q:=afc (us:=us) (abP (by assumption)) f0 (by assumption) (afs (by assumption));rw[show ccB cs us es c rs=true from(by assumption)];exact Bt rfl (fb.1.trans (Qu q).1) ((acO we pr.1 (by omega)).trans (Qu q).2.1) rfl rfl (Qu q).2.2)
      |done)
  | (show(_:List H)=_
     first
      |done)
  |omega
  |exact fK
  |exact⟨wc,wu,we,wr,k1,k2,k3,k4,c0,c1⟩
  |exact⟨wc,wu,we,wr,k1,k2,k3,k4⟩
  |exact⟨wc,wu,we,wr⟩
  |exact⟨wc,wu,k1,k2⟩
  |exact we
  |exact Of we pr.1 (by omega)
  |(show ax _ _=true;kernel_rfl)
  |exact⟨Zb,Zb⟩
  |exact Zb
  |done
open Go.Shelf Go.RowKit Go.Lib in
theorem y8:GY Tryz.prog 332:=by
 refine⟨fun w=>?_,fun b off sp len cap i hc hm hi w=>?_⟩<;>(go_enter Tryz.func332,Tryz.ntmps332;go_wp2;all_goals(go_ret;exact⟨rfl,rfl⟩))
open Go.Shelf Go.RowKit Go.Lib in
theorem za:GZ Tryz.prog 332 2:=by
 intro w es b off cap i j S v1 v2 v3 F hlt;obtain⟨A,W1,zs,hA,hsrc,hcap,hm,hij,hj,s1,s2,s3,hcl,hW2,hW,hic,hjc⟩:=F.fx hlt [Zi Zs 0,Zi Zs 0] Tryz.underlying37 Tryz.zeroValue108 rfl (Z6.1 rfl) rfl;have mixed:Tryz.prog.follows Yq=true:=mixed;clear F
 go_enter Tryz.func332,Tryz.ntmps332
 go_wp2_with fail
 go_region_law_o (refine step_append_room rfl (.tmp 22) (.tmp 25) 37 rfl 108 _ 2 Tryz.underlying37 rfl rfl b off i cap (by simp[ZK,ZI]) A (es.length-j) (cap-j) v3 (by simp[ZK,ZI]) s1.out hsrc.out s2.out (by omega) s3.out ?_;rw[<-hW.out])
 go_wp2
 go_ret
 rw[hW.out];exact⟨rfl,hW2⟩
def bi:EO:=fun F=>fun
 |[.one (.s 2 es),.one (.v (.int Za i)),.one (.v (.int Za j))]=>some (fun _=>0<=i/\i<=j/\j<=es.length,[.one (.s 2 (F.delL es i j))])
 |_=>none
theorem cy:eo 332 bi:=by
 intro _ _ _ h hp;dsimp only[bi,F0]at h;split at h<;>cases h
 rename_i es i j;exact q8 y8 za hp
abbrev Zx3:dp:={
 Φ:=tW
 F0:=F0
 ct:=fun F f=>match f with|134=>dQ F|61=>eK F|_=>fun _=>none
 hc:=(by
  intro f;dsimp only;split;exact hC;exact jF;exact dB)
 ot:=fun F f=>match f with|332=>some (bi F)|_=>none
 ho:=(by
  intro f mk h;dsimp only at h;split at h<;>cases h
  exact cy)}
def iU:EC:=fun F=>fun
 |[.one (.v (.int Za p)),.one (.s 2 rs),.one (.v (.int Za n))]=>some (fun _=>0<=p/\p<=1099511627776/\Rw [tI,tI] rs/\rs.length<=1099511627776/\AN n,[.one (.s 2 (F.tkL p rs n)),.j (F.tkA p rs n),.k (F.tkB p rs n)])
 |_=>none
theorem sf:ec 260 iU:=by
 intro _ _ _ h hp;dsimp only[iU,F0]at h;split at h<;>cases h
 rename_i p rs n;obtain⟨p0,p1,hr,hl,n0,n1⟩:=hp;refine cb Zx3 Tryz.func260 ?_
 intro O r F hO hr hF;cbv
 repeat' first|apply Zd|(apply cP<;>intro hb<;>cbv)|(refine⟨[1,2,9,10,25,26,27],[9],Int×Int,fun s_=>match s_ with|(i,b)=>[.reg 27 (.j i),.reg 10 (.j b)],fun s_=>match s_ with|(i,b)=>0<=i/\i<=(rs.length:Int)/\Ki rs n i b,fun s_=>match s_ with|(i,b)=>(rs.length-i).toNat,⟨(0,-1),?_,?_⟩,?_⟩;rotate_left;(focus (cbv;done));intro s_ hi;obtain⟨i,b⟩:=s_;replace hi:0<=i/\i<=(rs.length:Int)/\Ki rs n i b:=hi;obtain⟨i0,i1,i2⟩:=hi;cbv)|(refine ah (O.ar .add Za i 1,i) ?_ ?_ ?_;focus (cbv;done))|(refine ah (O.ar .add Za i 1,b) ?_ ?_ ?_;focus (cbv;done))
 all_goals(subst hO hr hF;(try simp only[nc]at*);(try simp only[aj,SS,sa,az]at*);(try rw[dx (by omega) (by omega)]);(try have ib:=Ti i2 i0);(try have hk:rgOk p rs=true:=(by assumption));(try have eb:=Ks i2 i1 (by omega));(try have tb:=af3 hk (by omega) (by omega:0<=dV rs n));(try have T:=Aa tb);(try have t0:=T.i0);(try have t1:=T.i1);(try have t2:=T.a0);(try have t3:=T.l0);(try have t4:=T.e);(try have t5:=T.p0);(try subst eb);(try have a1:bO .add Za (ag rs (dV rs n) 0) n=ag rs (dV rs n) 0+n:=cG (by omega));(try have a3:bO .add Za (dV rs n) 1=dV rs n+1:=cG (by omega));(try have b1:bO .add Za i 1=i+1:=cG (by omega));(try have U:=af4 hr T);(try simp only[U.g0]at*);(try simp only[a1,a3,b1]at*);(try simp only[U.u1]at*);(try simp only[U.g1]at*);(try have a2:bO .sub Za (ag rs (dV rs n) 1) n=ag rs (dV rs n) 1-n:=gg (by omega));(try simp only[a2]at*);(try simp only[U.u2]at*);(try simp only[U.g2]at*);(try have w1:=U.w1);(try have w2:=U.w2);(try have l1:=U.l);(try have l2:=U.l2);(try simp only[rr,List.nil_append]at*);(try have sd:=zU (l:=rs) (i:=dV rs n+1) (by omega) (by omega));(try simp only[sd]at*))
 all_goals first
  | (show(_:List DV)=_
     first
      |(have z:=RQ (n:=n) (by assumption);exact qd (Mt z) z)
      |(have z:=RR (p:=p) (rs:=rs) (by omega);exact qd (Mt z) z)
      |(have z:=RU (p:=p) (by omega);exact qd (Mt z) z)
      |(rw[RP t0];exact qd (RN tb (by omega)) tb)
      |exact qd (RO tb (by omega)) tb
      |exact qd (RN tb (by omega)) tb
      |(rw[acM hr t0 t1];exact qd (RO tb (by omega)) tb)
      |done)
  | (show(_:List H)=_
     first
      |done)
  |omega
  |exact fK
  |exact⟨hr,by omega⟩
  |exact⟨p0,p1,hr,by omega⟩
  |exact Rw.scal (fs:=[tI,tI]) hr rfl
  |(show _/\_;simp only[Zk,Zf,Zh,Zn];omega)
  |exact Te
  |exact Tf i2 i0 (by omega) (by omega)
  |exact Tg i2 i0 (by omega)
  |exact RJ hr (by omega) (by omega) (by decide)
  |exact RJ w1 t0 l1 (by decide)
  |exact Lu hr t0 t1 (by decide)
  |exact Lu w1 t0 l1 (by decide)
  |exact Lu w2 t0 l2 (by decide)
  |exact Of hr (by omega) (by omega)
  |exact⟨by omega,by omega,by omega⟩
  |exact⟨Zb,by simp only[Zw]⟩
  |exact⟨Zb,by rw[acM hr t0 t1,Zw]⟩
  |exact absurd (by assumption:true=false) Bool.noConfusion
  |exact Rw.scal (fs:=[tI,tI]) (Rw.take hr _) rfl
  |exact Rw.scal (fs:=[tI,tI]) (Rw.drop hr _) rfl
  |(show ax _ _=true;kernel_rfl)
  |exact⟨Zb,Zb⟩
  |exact Zb
  |done
abbrev Hn0:dp:=d4 (fun F f=>match f with|69=>gz F|33=>ay F|_=>fun _=>none) (by
 intro f;dsimp only;split;exact lP;exact aS;exact dB)
def jP:EC:=fun F=>fun
 |[.one (.v (.int Za s))]=>some (fun _=>True,[.j (F.nxS s)])
 |_=>none
theorem ua:ec 330 jP:=by
 intro _ _ _ h hp;dsimp only[jP,F0]at h;split at h<;>cases h
 rename_i s;refine cb Hn0 Tryz.func330 ?_
 intro O r F hO hr hF;cbv
 repeat' first|apply Zd|(apply cP<;>intro hb<;>cbv)
 all_goals(subst hO hr hF;(try simp only[nc]at*);(try simp only[aj,SS,sa,az]at*))
 all_goals first
  | (show(_:List DV)=_
     first
      |exact cB (afA (by assumption)).symm
      |exact cB (afz (by assumption)).symm
      |done)
  |(show ax _ _=true;kernel_rfl)
  | (show(_:Int)≠0
     decide)
  |omega
  |exact Zb
  |done
abbrev Hn1:dp:=d4 (fun F f=>match f with|69=>gz F|33=>ay F|330=>jP F|_=>fun _=>none) (by
 intro f;dsimp only;split;exact lP;exact aS;exact ua;exact dB)
def ji:EC:=fun F=>fun
 |[.one (.v (.int Za s)),.one (.v (.int Za n))]=>some (fun _=>True,[.j (F.cuI s n),.j (F.cuS s n)])
 |_=>none
theorem pB:ec 257 ji:=by
 intro _ _ _ h hp;dsimp only[ji,F0]at h;split at h<;>cases h
 rename_i s n;refine cb Hn1 Tryz.func257 ?_
 intro O r F hO hr hF;cbv
 repeat' first|apply Zd|(apply cP<;>intro hb<;>cbv)
 all_goals(subst hO hr hF;(try simp only[nc]at*);(try simp only[aj,SS,sa,az]at*))
 all_goals first
  | (show(_:List DV)=_
     first
      |exact x8 (KO (TJ (by assumption))).1.symm (KO (TJ (by assumption))).2.symm
      |exact x8 (KO (TK (by assumption))).1.symm (KO (TK (by assumption))).2.symm
      |exact x8 (TN (by assumption) (by assumption)).1.symm (TN (by assumption) (by assumption)).2.symm
      |done)
  |(show ax _ _=true;kernel_rfl)
  |exact Zb
  |exact⟨Zb,Zb⟩
  |omega
  |(have q:=be.1 (by assumption:inR n 1 1000=true);omega)
  |done
open Go.Shelf Go.RowKit Go.Lib in
theorem A2:GY Tryz.prog 284:=by
 refine⟨fun w=>?_,fun b off sp len cap i hc hm hi w=>?_⟩<;>(go_enter Tryz.func284,Tryz.ntmps284;go_wp2;all_goals(go_ret;exact⟨rfl,rfl⟩))
open Go.Shelf Go.RowKit Go.Lib in
theorem A3:GZ Tryz.prog 284 3:=by
 intro w es b off cap i j S v1 v2 v3 F hlt;obtain⟨A,W1,zs,hA,hsrc,hcap,hm,hij,hj,s1,s2,s3,hcl,hW2,hW,hic,hjc⟩:=F.fx hlt [Zi Zs 0,Zi Zs 0,Zi Zs 0] Tryz.underlying38 Tryz.zeroValue213 rfl (Z6.1 rfl) rfl;have mixed:Tryz.prog.follows Yq=true:=mixed;clear F
 go_enter Tryz.func284,Tryz.ntmps284
 go_wp2_with fail
 go_region_law_o (refine step_append_room rfl (.tmp 22) (.tmp 25) 38 rfl 213 _ 3 Tryz.underlying38 rfl rfl b off i cap (by simp[ZK,ZI]) A (es.length-j) (cap-j) v3 (by simp[ZK,ZI]) s1.out hsrc.out s2.out (by omega) s3.out ?_;rw[<-hW.out])
 go_wp2
 go_ret
 rw[hW.out];exact⟨rfl,hW2⟩
def ak:EO:=fun F=>fun
 |[.one (.s 3 es),.one (.v (.int Za i)),.one (.v (.int Za j))]=>some (fun _=>0<=i/\i<=j/\j<=es.length,[.one (.s 3 (F.delL es i j))])
 |_=>none
theorem cE:eo 284 ak:=by
 intro _ _ _ h hp;dsimp only[ak,F0]at h;split at h<;>cases h
 rename_i es i j;exact q8 A2 A3 hp
def lG:EC:=fun F=>fun
 |[.agg hl_,.one (.v (.int Za p))]=>hL hl_ fun a0 a1 a2 a3 a4 a5 a6 a7 a8 a9 aA aB aC aD aE aF aG aH aI aJ aK aL aM aN=>(fun _=>True,[.k (F.bsB aI aJ aK p)])
 |_=>none
theorem te:ec 140 lG:=by
 intro _ _ _ h hp;dsimp only[lG,F0,hL]at h;split at h;rotate_left;cases h;split at h<;>cases h
 rename_i p _ a0 a1 a2 a3 a4 a5 a6 a7 a8 a9 aA aB aC aD aE aF aG aH aI aJ aK aL aM aN;refine cb nB Tryz.func140 ?_
 intro O r F hO hr hF;cbv
 repeat' first|apply Zd|(apply cP<;>intro hb<;>cbv)
 all_goals(subst hO hr hF;(try simp only[nc]at*);(try simp only[aj,SS,sa,az]at*))
 all_goals first
  | (show(_:List DV)=_
     first
      |exact av (adT (by assumption)).symm
      |exact av (adR (by assumption) (by assumption)).symm
      |exact av (adS (by assumption) (by assumption)).symm
      |done)
  |done
abbrev Zd1:dp:=d4 (fun F f=>match f with|154=>jk F|156=>iq F|155=>jR F|_=>fun _=>none) (by
 intro f;dsimp only;split;exact pC;exact oh;exact ue;exact dB)
def fQ:EP:=fun F=>fun
 |[.mp hl_,.agg [.v (.int Za t),.v (.int Za l)]]=>hM hl_ fun a0 a1 a2 a3 a4 a5 a6 a7 a8 a9 aA aB aC aD aE aF aG aH aI aJ aK aL aM aN=>(fun _=>lq a0 a1 a2 a4 a5 a6 a7 a8 a9 aA aB aD aL/\kerOk a0 a1 a2 a3 a4=true/\a3≠100000/\a5.length<=536870911/\0<=t/\0<=l/\t+l<=1000,[(Lc (F.duC a0 a1 a2 t l) (F.duU a0 a1 a2 t l) (F.duE a0 a1 a2 t l) a3 a4 (F.rpL (F.zlI (F.duE a0 a1 a2 t l)) a5 t l) a6 a7 a8 a9 aA aB aC aD aE aF aG aH aI aJ aK aL aM aN)],[])
 |_=>none
theorem mo:ep 53 fQ:=by
 intro _ _ _ _ h hp;dsimp only[fQ,F0,hM]at h;split at h;rotate_left;cases h;split at h<;>cases h
 rename_i t l _ a0 a1 a2 a3 a4 a5 a6 a7 a8 a9 aA aB aC aD aE aF aG aH aI aJ aK aL aM aN;obtain⟨hp,hk,hn,h5,t0,l0,tl⟩:=hp;have km:=(jt hk).1;have e1:bO .add Za t l=t+l:=cG (by omega);have c0:=hp.c0;have c1:=hp.c1;have c2:=hp.c2;have c4:=hp.c4;have c5:=hp.c5;have q2:=aO (es:=a2);refine pb Zd1 Tryz.func53 ?_
 intro O r os F hO hr hos hF;cbv
 repeat' first|apply Zd|(apply cP<;>intro hb<;>cbv)|(refine⟨[0,3,4],[0,3],Int×af×af×af×af,fun s_=>match s_ with|(p,c,u,e,r)=>[.reg 4 (.j p),.leaf 0 0 ⟨0,0,none,.own (.s 1 c)⟩,.leaf 0 1 ⟨0,0,none,.own (.s 1 u)⟩,.leaf 0 2 ⟨0,0,none,.own (.s 2 e)⟩,.leaf 0 3 ⟨0,0,none,.own (.i a3)⟩,.leaf 0 4 ⟨0,0,none,.own (.s 1 r)⟩],fun s_=>match s_ with|(p,c,u,e,r)=>t<=p/\p<=t+l/\GN a0 a1 a2 t p c u e/\r=a4,fun s_=>match s_ with|(p,c,u,e,r)=>(t+l-p).toNat,⟨(t,a0,a1,a2,a4),?_,?_⟩,?_⟩;rotate_left;(focus (cbv;done));intro s_ hp;obtain⟨p,c,u,e,r⟩:=s_;replace hp:t<=p/\p<=t+l/\GN a0 a1 a2 t p c u e/\r=a4:=hp;obtain⟨p0,p1,p2,p3⟩:=hp;cbv)|(refine ah (O.ar .add Za p 1,F.ktC (F.ccB (O.sub c 0 (O.ln c)) (O.sub u 0 (O.ln u)) (O.sub e 0 (O.ln e)) a3 (O.sub r 0 (O.ln r))) (O.sub c 0 (O.ln c)) (O.sub e 0 (O.ln e)) p,F.ktU (F.ccB (O.sub c 0 (O.ln c)) (O.sub u 0 (O.ln u)) (O.sub e 0 (O.ln e)) a3 (O.sub r 0 (O.ln r))) (O.sub u 0 (O.ln u)) (O.sub e 0 (O.ln e)) p,F.ktE (F.ccB (O.sub c 0 (O.ln c)) (O.sub u 0 (O.ln u)) (O.sub e 0 (O.ln e)) a3 (O.sub r 0 (O.ln r))) (O.sub e 0 (O.ln e)) p,(O.sub r 0 (O.ln r))) ?_ ?_ ?_;focus (cbv;done))
 all_goals((try subst hos);subst hO hr hF;(try simp only[nc]at*);(try simp only[aj,SS,sa,az]at*);(try simp only[e1]at*);(try rw[dx (by omega) (by omega)]);(try subst p3);(try have dc:=ze p2);(try have el:=p2.l);(try have cc:=O5 p2.m hk hn);(try have kk:=Qt (cs:=c) (us:=u) (es:=e) (p:=p) cc);(try have en:=ES (l:=l) p2 (by omega) (by omega)))
 all_goals first
  |(show(_:List DV)=_;exact rfl)
  | (show(_:List H)=_
     first
      |(first|(rw[<-en.1, <-en.2.1, <-en.2.2];done)|(rw[<-en.1, <-en.2.1, <-en.2.2];exact rfl))
      |done)
  |omega
  |exact⟨p2.rc,p2.ru,p2.re,hp.r4,by omega,by omega,by omega,by omega⟩
  |exact HN km hp.r0 hp.r1 hp.r2
  |(show(_:af)=_;exact rfl)
  |(rw[kk.1,kk.2.1,kk.2.2.1];exact CY p2 p0)
  |exact⟨by unfold zlI;omega,by unfold zlI;omega,hp.r5,by omega⟩
  |(show ax _ _=true;kernel_rfl)
  |exact⟨Zb,Zb⟩
  |exact Zb
  |done
abbrev Zd2:dp:={
 Φ:=tW
 F0:=F0
 pt:=fun F f=>match f with|53=>some (fQ F)|_=>none
 hp:=(by
  intro f mk h;dsimp only at h;split at h<;>cases h
  exact mo)
 ot:=fun F f=>match f with|284=>some (ak F)|_=>none
 ho:=(by
  intro f mk h;dsimp only at h;split at h<;>cases h
  exact cE)}
def jW:EP:=fun F=>fun
 |[.mp hl_,.one (.v (.int Za i))]=>hM hl_ fun a0 a1 a2 a3 a4 a5 a6 a7 a8 a9 aA aB aC aD aE aF aG aH aI aJ aK aL aM aN=>(fun _=>lq a0 a1 a2 a4 a5 a6 a7 a8 a9 aA aB aD aL/\kerOk a0 a1 a2 a3 a4=true/\a3≠100000/\a5.length<=536870911/\0<=i/\i<a6.length/\0<=ag a6 i 0/\ag a6 i 0<=31,[(Lc (F.dsC a0 a1 a2 a6 i) (F.dsU a0 a1 a2 a6 i) (F.dsE a0 a1 a2 a6 i) a3 a4 (F.dsF a0 a1 a2 a5 a6 i) (F.dsS a6 i) a7 a8 a9 aA aB aC aD aE aF aG aH aI aJ aK aL aM aN)],[])
 |_=>none
theorem uj:ep 182 jW:=by
 intro _ _ _ _ h hp;dsimp only[jW,F0,hM]at h;split at h;rotate_left;cases h;split at h<;>cases h
 rename_i i _ a0 a1 a2 a3 a4 a5 a6 a7 a8 a9 aA aB aC aD aE aF aG aH aI aJ aK aL aM aN;obtain⟨hp,hk,hn,h5,i0,i1,g0,g1⟩:=hp;have km:=(jt hk).1;have c5:=hp.c5;have c6:=hp.c6;have c2:=hp.c2;have q6:=aO (es:=a6);have q2:=aO (es:=a2);have q5:=aO (es:=a5);have e1:bO .add Za i 1=i+1:=cG (by omega);have hs6:=hp.r6.scal rfl;have kl:=E8 (es:=a2) (p:=ag a6 i 0);refine pb Zd2 Tryz.func182 ?_
 intro O r os F hO hr hos hF;cbv
 repeat' first|apply Zd|(apply cP<;>intro hb<;>cbv)
 all_goals((try subst hos);subst hO hr hF;(try simp only[nc]at*);(try simp only[aj,SS,sa,az]at*);(try simp only[e1]at*);(try simp only[gV (l:=a6) (sz:=3) (j:=0) (i:=i) i0]at*))
 all_goals first
  |(show(_:List DV)=_;exact rfl)
  | (show(_:List H)=_
     first
      |exact rfl
      |(have d:=HM (a0:=a0) (a1:=a1) (a2:=a2) (a6:=a6) (i:=i);rw[d.1,d.2.1,d.2.2,ad9, <-Py i0 i1];exact rfl)
      |done)
  |omega
  |exact fK
  |(show ax _ _=true;kernel_rfl)
  |exact tC hp.r6 i0 i1 (by decide)
  |exact hs6
  |(show _/\_;simp only[vM,jf,Zk,Zf,Zh,Zn];omega)
  |exact⟨TZ hp,hk,hn,h5,g0,by omega,by omega⟩
  |exact⟨by omega,by omega,by omega⟩
  |exact⟨hp.r0,hp.r1,hp.r2,hp.r4,km⟩
  |exact⟨by unfold zlI;omega,by unfold zlI;omega,hp.r5,by omega⟩
  |exact⟨Zb,Zb⟩
  |exact Zb
  |done
end Go.V