/- Contracts. -/
import Derived.Test.YtpldpilhgjpkjaaGreatXW5
import Derived.Test.YtpldpilhgjpkjaaGreatXM5
import Derived.Test.YtpldpilhgjpkjaaGreatXW6
set_option linter.all false
open Go
open Act renaming eval->ZK,put->ZI
open And renaming intro->Zd
open Departure renaming mixedOrders->Yq
open Extern.SlicesOverlaps renaming overlaps->XR
open IntKind renaming i64->Za
open List renaming length_nil->Zk,length_eq_one_iff->XS
open True renaming intro->Zb
namespace Go.V
open Go Go.Proofs
set_option maxRecDepth 1000000
set_option maxHeartbeats 8000000
abbrev Zk0:dp:=d4 (fun F f=>match f with|331=>gA F|_=>fun _=>none) (by
 intro f;dsimp only;split;exact lQ;exact dB)
def gM:EC:=fun F=>fun
 |[.one (.v (.int Za b)),.one (.v (.int Za i))]=>some (fun _=>True,[.j (F.woN b i)])
 |_=>none
theorem pN:ec 283 gM:=by
 intro _ _ _ h hp;dsimp only[gM,F0]at h;split at h<;>cases h
 rename_i b i;refine cb Zk0 Tryz.func283 ?_
 intro O r F hO hr hF;cbv
 repeat' first|apply Zd|(apply cP<;>intro hb<;>cbv)
 all_goals(subst hO hr hF;(try simp only[nc]at*);(try simp only[aj,SS,sa,az]at*);(try have hs:=BQ.1 (by assumption:slB b i=true));(try have hw:=xp hs.2.1 hs.2.2);(try simp only[hw]at*))
 all_goals first
  | (show(_:List DV)=_
     first
      |(refine cB ?_;unfold woN;rw[show slB b i=false from(by assumption)];exact rfl)
      |(refine cB ?_;unfold woN;rw[VT (by assumption:slB b i=true)])
      |done)
  |omega
  |exact fK
  |(show ax _ _=true;kernel_rfl)
  |exact⟨Zb,Zb⟩
  |exact Zb
  |done
abbrev Zk1:dp:=d4 (fun F f=>match f with|167=>dX F|273=>dF F|283=>gM F|_=>fun _=>none) (by
 intro f;dsimp only;split;exact gv;exact fm;exact pN;exact dB)
def jS:EC:=fun F=>fun
 |[.agg [.v (.int Za p),.v (.int Za k),.v (.int Za b)],.one (.v (.int Za s))]=>some (fun _=>True,[.agg [.i p,.i k,.i (F.snN p k b s)],.k (F.snB p k b s)])
 |_=>none
theorem uf:ec 181 jS:=by
 intro _ _ _ h hp;dsimp only[jS,F0]at h;split at h<;>cases h
 rename_i p k b s;refine cb Zk1 Tryz.func181 ?_
 intro O r F hO hr hF;cbv
 repeat' first|apply Zd|(apply cP<;>intro hb<;>cbv)
 all_goals(subst hO hr hF;(try simp only[nc]at*);(try simp only[aj,SS,sa,az]at*))
 all_goals first
  | (show(_:List DV)=_
     first
      |(have q:=af0 (p:=p) (k:=k) (b:=b) (x:=s) (by assumption);rw[q.1,q.2];exact rfl)
      |(have q:=af1 (p:=p) (k:=k) (b:=b) (x:=s) (by assumption);rw[q.1,q.2];exact rfl)
      |(have q:=acS (p:=p) (k:=k) (b:=b) (x:=s) (by assumption) (by assumption);rw[q.1,q.2];exact rfl)
      |done)
  |omega
  |exact fK
  |(show ax _ _=true;kernel_rfl)
  |exact⟨Zb,Zb⟩
  |exact Zb
  |done
def Tryz.laysQ_ren:Go.Shelf.Ren:=⟨fun|41=>161|n=>n,fun|22=>45|23=>142|4=>4|n=>n,fun|n=>n⟩
theorem Tryz.laysQ:SlLaysE0.n41 Tryz.prog Tryz.laysQ_ren:=⟨by kernel_rfl,⟨Tryz.f161.name,by decide,Tryz.func161.trans (congrArg some (by kernel_rfl))⟩,Tryz.underlying4,Tryz.isAgg4,Tryz.sizeOf4,Tryz.zeroValue4,Tryz.underlying45,Tryz.isAgg45,Tryz.sizeOf45,Tryz.zeroValue45⟩
def bj:EC:=fun F=>fun
 |[.one (.s 3 es)]=>some (fun _=>Rw [tI,tI,tI] es/\es.length<=1099511627776,[.one (.s 3 es)])
 |_=>none
theorem cC:ec 161 bj:=by
 intro _ _ _ h hp;dsimp only[bj,F0]at h;split at h<;>cases h
 rename_i es;obtain⟨hw,hl⟩:=hp;obtain⟨i0,hi,hz0,hz1,hz2⟩:=info_parts (show(Tryz.prog.info? 142).map (fun i=>(i.zero,i.size,i.bytes))=some (some (.agg #[.int Za 0,.int Za 0,.int Za 0]),3,24)from by kernel_rfl);exact CU (t:=142) 3 24 (by decide) (AnyE.slices_Clone_nil Tryz.laysQ) (AY Tryz.laysQ i0 _ 3 24 hi hz0 hz1 hz2 rfl (by decide) Tryz.sizeOf142) (AnyE.slices_Clone Tryz.laysQ i0 _ 3 24 hi hz0 hz1 hz2 rfl (by decide) Tryz.sizeOf142) es (acI (hw.scal rfl)) (by omega)
abbrev Zl0:dp:={
 Φ:=tW
 F0:=F0
 ct:=fun F f=>match f with|162=>dG F|181=>jS F|140=>lG F|_=>fun _=>none
 hc:=(by
  intro f;dsimp only;split;exact fq;exact uf;exact te;exact dB)
 pt:=fun F f=>match f with|182=>some (jW F)|_=>none
 hp:=(by
  intro f mk h;dsimp only at h;split at h<;>cases h
  exact uj)}
def ig:EP:=fun F=>fun
 |[.mp hl_,.one (.v (.int Za ad))]=>hM hl_ fun a0 a1 a2 a3 a4 a5 a6 a7 a8 a9 aA aB aC aD aE aF aG aH aI aJ aK aL aM aN=>(fun _=>lq a0 a1 a2 a4 a5 a6 a7 a8 a9 aA aB aD aL/\kerOk a0 a1 a2 a3 a4=true/\a3≠100000/\a5.length<=65/\qj a6/\(∃ i,nU a6 ad i),[(Lc (F.fzC aI aJ aK a0 a1 a2 a5 a6 ad) (F.fzU aI aJ aK a0 a1 a2 a5 a6 ad) (F.fzE aI aJ aK a0 a1 a2 a5 a6 ad) a3 a4 (F.fzF aI aJ aK a0 a1 a2 a5 a6 ad) (F.fzS aI aJ aK a0 a1 a2 a5 a6 ad) a7 a8 a9 aA aB aC aD aE aF aG aH aI aJ aK aL aM aN)],[])
 |_=>none
theorem qB:ep 76 ig:=by
 intro _ _ _ _ h hp;dsimp only[ig,F0,hM]at h;split at h;rotate_left;cases h;split at h<;>cases h
 rename_i ad _ a0 a1 a2 a3 a4 a5 a6 a7 a8 a9 aA aB aC aD aE aF aG aH aI aJ aK aL aM aN;obtain⟨hp,hk,hn,h5,g,ix,v⟩:=hp;have l6:=aO (es:=a6);have c6:=hp.c6;have dn:=Dx (L:=a7) g v;have vi:=zy g v;have fs:=j6 g v;have vl:=v.l;have up:=aag hp.r6 g v;have pg:=EV g v;have pl:=pg.2;have w1:=M3 hp.r6 g v;have x0:(0:Int)<=ix:=(by omega);have x1:(ix:Int)<a6.length:=(by omega);have x2:(ix:Int)<(jC a6 ad).length:=(by omega);refine pb Zl0 Tryz.func76 ?_
 intro O r os F hO hr hos hF;cbv
 repeat' first|apply Zd|(apply cP<;>intro hb<;>cbv)
 all_goals((try subst hos);subst hO hr hF;(try simp only[nc]at*);(try simp only[aj,SS,sa,az]at*);(try simp only[dn.1]at*);(try simp only[dn.2.1,dn.2.2]at*);(try simp only[gV (l:=a6) (sz:=3) (j:=0) (i:=ix) x0,gV (l:=a6) (sz:=3) (j:=1) (i:=ix) x0,gV (l:=a6) (sz:=3) (j:=2) (i:=ix) x0]at*);(try simp only[show saS (ag a6 ix 0) (ag a6 ix 1) (ag a6 ix 2) ad=xv a6 ad ix from rfl]at*);(try simp only[up]at*);(try simp only[gV (l:=jC a6 ad) (sz:=3) (j:=0) (i:=ix) x0,gV (l:=jC a6 ad) (sz:=3) (j:=1) (i:=ix) x0,gV (l:=jC a6 ad) (sz:=3) (j:=2) (i:=ix) x0]at*))
 all_goals first
  | (show(_:List DV)=_
     first
      |done)
  | (show(_:List H)=_
     first
      |(exfalso;have q:(1:Int)≠1:=(by assumption);exact q rfl)
      |(have b:=aac (me:=aI) (kp:=aJ) (mv:=aK) g v (by assumption);have z:=aaC (c:=a0) (u:=a1) (e:=a2) (f:=a5) b;rw[z.1,z.2.1,z.2.2.1,z.2.2.2.1,z.2.2.2.2];exact rfl)
      |(have b:=aad (me:=aI) (kp:=aJ) (mv:=aK) g v (by assumption);have z:=aaC (c:=a0) (u:=a1) (e:=a2) (f:=a5) b;rw[z.1,z.2.1,z.2.2.1,z.2.2.2.1,z.2.2.2.2];exact rfl)
      |(have b:=aae (me:=aI) (kp:=aJ) (mv:=aK) g v (by assumption) (by assumption);have z:=aer (c:=a0) (u:=a1) (e:=a2) (f:=a5) g v b;rw[z.1,z.2.1,z.2.2.1,z.2.2.2.1,z.2.2.2.2];exact rfl)
      |done)
  |omega
  |exact fK
  |exact⟨hp.r6,hp.r7⟩
  |exact⟨aaG hp g v,hk,hn,by omega,by omega,by omega,by omega,by omega⟩
  |exact tA hp.r6 x0 x1
  |exact acU hp.r6 x0 x1
  |exact tA w1 x0 x2
  |exact tC hp.r6 x0 x1 (by decide)
  |exact tC w1 x0 x2 (by decide)
  |(show ax _ _=true;kernel_rfl)
  |exact⟨Zb,Zb⟩
  |exact Zb
  |done
abbrev Zr0:dp:=d4 (fun F f=>match f with|157=>dj F|66=>fv F|_=>fun _=>none) (by
 intro f;dsimp only;split;exact d9;exact ko;exact dB)
def im:EC:=fun F=>fun
 |[.agg [.s 1 ls],.one (.v (.int Za k))]=>some (fun _=>OI ls,[.k (F.clB ls k)])
 |_=>none
theorem oe:ec 253 im:=by
 intro _ _ _ h hp;dsimp only[im,F0]at h;split at h<;>cases h
 rename_i ls k;refine cb Zr0 Tryz.func253 ?_
 intro O r F hO hr hF;cbv
 repeat' first|apply Zd|(apply cP<;>intro hb<;>cbv)
 all_goals(subst hO hr hF;(try simp only[nc]at*);(try simp only[aj,SS,sa,az]at*))
 all_goals first
  | (show(_:List DV)=_
     first
      |exact av (Ts (by assumption)).symm
      |exact av (Tt (by assumption)).symm
      |exact av (Tu (by assumption)).symm
      |exact av (Tv (by assumption)).symm
      |done)
  | (show(_:List H)=_
     first
      |done)
  |omega
  |exact fK
  |exact hp
  |(show ax _ _=true;kernel_rfl)
  |exact⟨Zb,Zb⟩
  |exact Zb
  |done
abbrev Zs0:dp:=d4 (fun F f=>match f with|33=>ay F|17=>eP F|_=>fun _=>none) (by
 intro f;dsimp only;split;exact aS;exact gu;exact dB)
def kI:EC:=fun F=>fun
 |[.agg hl_,.one (.v (.int Za t))]=>hL hl_ fun a0 a1 a2 a3 a4 a5 a6 a7 a8 a9 aA aB aC aD aE aF aG aH aI aJ aK aL aM aN=>(fun _=>lq a0 a1 a2 a4 a5 a6 a7 a8 a9 aA aB aD aL,[.k (F.t0B (F.hpI a0 a1 a2 a3 a4 a5 a6 a7 a8 a9 aA aB aC aD aE aF aG aH aI aJ aK aL aM aN) a3 t a9)])
 |_=>none
theorem vz:ec 73 kI:=by
 intro _ _ _ h hp;dsimp only[kI,F0,hL]at h;split at h;rotate_left;cases h;split at h<;>cases h
 rename_i t _ a0 a1 a2 a3 a4 a5 a6 a7 a8 a9 aA aB aC aD aE aF aG aH aI aJ aK aL aM aN;have l9:=aO (es:=a9);have c9:=hp.c9;have e1:bO .sub Za (a9.length:Int) 1=a9.length-1:=gg (by omega);refine cb Zs0 Tryz.func73 ?_
 intro O r F hO hr hF;cbv
 repeat' first|apply Zd|(apply cP<;>intro hb<;>cbv)
 all_goals(subst hO hr hF;(try simp only[nc]at*);(try simp only[aj,SS,sa,az]at*);(try simp only[e1]at*))
 all_goals first
  | (show(_:List DV)=_
     first
      |exact av (Og (by assumption)).symm
      |exact av (Oh (by omega)).symm
      |exact av (JK (by assumption) (by omega)).symm
      |exact av (JK (by assumption) (by assumption)).symm
      |done)
  | (show(_:List H)=_
     first
      |done)
  |omega
  |exact fK
  |exact hp
  |exact hp.hp
  |(show ax _ _=true;kernel_rfl)
  |exact⟨Zb,Zb⟩
  |exact Zb
  |done
abbrev Zy0:dp:=d4 (fun F f=>match f with|331=>gA F|_=>fun _=>none) (by
 intro f;dsimp only;split;exact lQ;exact dB)
def gI:EC:=fun F=>fun
 |[.one (.v (.int Za b)),.one (.v (.int Za i))]=>some (fun _=>True,[.j (F.wiN b i)])
 |_=>none
theorem nJ:ec 258 gI:=by
 intro _ _ _ h hp;dsimp only[gI,F0]at h;split at h<;>cases h
 rename_i b i;refine cb Zy0 Tryz.func258 ?_
 intro O r F hO hr hF;cbv
 repeat' first|apply Zd|(apply cP<;>intro hb<;>cbv)
 all_goals(subst hO hr hF;(try simp only[nc]at*);(try simp only[aj,SS,sa,az]at*);(try have hs:=BQ.1 (by assumption:slB b i=true));(try have hw:=xp hs.2.1 hs.2.2);(try simp only[hw]at*))
 all_goals first
  | (show(_:List DV)=_
     first
      |(refine cB ?_;unfold wiN;rw[show slB b i=false from(by assumption)];exact rfl)
      |(refine cB ?_;unfold wiN;rw[VT (by assumption:slB b i=true)])
      |done)
  | (show(_:List H)=_
     first
      |done)
  |omega
  |exact fK
  |(show ax _ _=true;kernel_rfl)
  |exact⟨Zb,Zb⟩
  |exact Zb
  |done
abbrev Zy1:dp:=d4 (fun F f=>match f with|278=>gD F|273=>dF F|255=>di F|_=>fun _=>none) (by
 intro f;dsimp only;split;exact nE;exact fm;exact d8;exact dB)
def fP:EC:=fun F=>fun
 |[.one (.v (.int Za n)),.one (.v (.int Za b))]=>some (fun _=>True,[.one (.s 1 (F.frL n b))])
 |_=>none
theorem mn:ec 254 fP:=by
 intro _ _ _ h hp;dsimp only[fP,F0]at h;split at h<;>cases h
 rename_i n b;refine cb Zy1 Tryz.func254 ?_
 intro O r F hO hr hF;cbv
 repeat' first|apply Zd|(apply cP<;>intro hb<;>cbv)|(refine⟨[0,1,5,6],[5],Int×af,fun s_=>match s_ with|(i,o)=>[.reg 6 (.j i),.reg 5 (.one (.vw 5 0 0 0 (O.ln o))),.leaf 5 0 ⟨0,0,none,.own (.s 1 o)⟩],fun s_=>match s_ with|(i,o)=>0<=i/\i<=n/\J7 b i o,fun s_=>match s_ with|(i,o)=>(n-i).toNat,⟨(0,[]),?_,?_⟩,?_⟩;rotate_left;(focus (cbv;done));intro s_ hi;obtain⟨i,o⟩:=s_;replace hi:0<=i/\i<=n/\J7 b i o:=hi;obtain⟨i0,i1,i2⟩:=hi;cbv)|(refine ah (O.ar .add Za i 1,o) ?_ ?_ ?_;focus (cbv;done))|(refine ah (O.ar .add Za i 1,O.cat o (O.sub [[.i i]] 0 (O.ln [[.i i]]))) ?_ ?_ ?_;focus (cbv;done))
 all_goals(subst hO hr hF;(try simp only[nc]at*);(try simp only[aj,SS,sa,az]at*);(try rw[dx (by omega) (by omega)]);(try have hb:bmOk n b=true:=(by assumption));(try have rb:=Tc hb);(try have b1:bO .add Za i 1=i+1:=cG (by omega));(try simp only[b1]at*);(try have il:=K0 i2 i0))
 all_goals first
  | (show(_:List DV)=_
     first
      |exact zP (aeo (by assumption)).symm
      |exact zP (KZ i2 hb (by omega) (by omega))
      |done)
  | (show(_:List H)=_
     first
      |done)
  |omega
  |exact fK
  |exact aat
  |exact aau i2 i0 (by assumption)
  |exact aav i2 i0 (by assumption)
  |(simp only[bE,eF,scal];done)
  |(simp[bE,eF,scal];done)
  |exact Rw.scal (fs:=[tI]) (PX i2 (by omega)) rfl
  |(simp only[List.length_cons,Zk];omega)
  |(show ax _ _=true;kernel_rfl)
  |exact⟨Zb,Zb⟩
  |exact Zb
  |done
abbrev Zy2:dp:=d4 (fun F f=>match f with|135=>ed F|253=>im F|_=>fun _=>none) (by
 intro f;dsimp only;split;exact iL;exact oe;exact dB)
def iM:EC:=fun F=>fun
 |[.agg [.s 1 ls],.one (.v (.int Za k))]=>some (fun _=>Rw [.sl [tI]] ls/\ap ls<=1073741824,[.agg [.s 1 (F.ctL ls k)],.j (F.ctA ls k),.k (F.ctB ls k)])
 |_=>none
theorem rR:ec 139 iM:=by
 intro _ _ _ h hp;dsimp only[iM,F0]at h;split at h<;>cases h
 rename_i ls k;obtain⟨hw,hc⟩:=hp;have N:=IV hw (by omega);have ln:=aO (es:=ls);refine cb Zy2 Tryz.func139 ?_
 intro O r F hO hr hF;cbv
 repeat' first|apply Zd|(apply cP<;>intro hb<;>cbv)
 all_goals(subst hO hr hF;(try simp only[nc]at*);(try simp only[aj,SS,sa,az]at*);(try simp only[eE]at*);(try have ht:clB ls k=true:=(by assumption));(try have hi:=xU ht);(try have k1:k<ls.length:=(by omega));(try have hg:=kV hw hi.1 k1);(try have hz:=TH (k:=k) ht (by omega));(try have e1:bO .sub Za ((aw ls k 0).length:Int) 1=(aw ls k 0).length-1:=gg (by omega));(try simp only[e1]at*);(try simp only[rr,Jy,af5,List.nil_append]at*);(try have hu:=TL hw hc ht))
 all_goals first
  | (show(_:List DV)=_
     first
      |(have q:=TF (MW (by assumption:clB ls k=false));rw[q.1,q.2,MW (by assumption:clB ls k=false)];exact rfl)
      |(have q:=TF (MX (ls:=ls) (k:=k) (by omega));rw[q.1,q.2,MX (ls:=ls) (k:=k) (by omega)];exact rfl)
      |(rw[hz.1,hz.2.1,hz.2.2,FP hw hi.1 k1];exact rfl)
      |(rw[hz.1,hz.2.1,hz.2.2];exact rfl)
      |done)
  | (show(_:List H)=_
     first
      |done)
  |omega
  |exact fK
  |exact N
  |exact⟨hw,by omega⟩
  |exact qT hw hi.1 k1
  |exact⟨hi.1,k1⟩
  |exact⟨by omega,by omega,by omega,vT hw hi.1 k1⟩
  |exact⟨Zb,rfl,hu.1,hu.2.1⟩
  |exact⟨Zb,hu.1,hu.2.1⟩
  |exact⟨hu.1,hu.2.1⟩
  |exact Rw.scal (fs:=[tI]) (Rw.take hg _) rfl
  |(show _/\_;simp only[Zk,List.length_take];omega)
  |exact yE hw hi.1 k1
  |(rw[show(aw ls k 0).length-1=(((aw ls k 0).length:Int)-1).toNat from by omega];exact fK)
  |(show ax _ _=true;kernel_rfl)
  |exact⟨Zb,Zb⟩
  |exact Zb
  |done
set_option maxRecDepth 100000 in
open Go.Shelf Go.RowKit Go.Lib in
theorem Df:G0 Tryz.prog 262 38:=by
 intro w W base n c vb vo vc v hnc hm hb hr;have mixed:Tryz.prog.follows Yq=true:=mixed
 go_enter Tryz.func262,Tryz.ntmps262
 rcases base with _|⟨ab,ao,asp⟩
 ·obtain rfl:=hb rfl;obtain rfl:n=0:=by omega
  go_wp2_with (at_builtin;refine dL rfl (mQ rfl rfl rfl hr) ?_)
  go_ret;exact⟨rfl,rfl⟩
 ·go_wp2_with (at_builtin;refine dL rfl (mQ rfl rfl rfl hr) ?_)
  all_goals(go_ret;exact⟨rfl,rfl⟩)
set_option maxRecDepth 100000 in
open Go.Shelf Go.RowKit Go.Lib in
theorem Dj:G4 Tryz.prog 262 38 3:=by
 intro w W1 W2 b off n c i vb vo vc hi hroom hm ho h1 h2;have mixed:Tryz.prog.follows Yq=true:=mixed;have hov:∀ lb cb,(callFunc 335 #[.slice (some ⟨vb,vo,none⟩) 1 vc,.slice (some ⟨b,off+(i+1)*3,none⟩) lb cb]).run Tryz.prog w=.ok (.value (.bool false)) w:=fun lb cb=>by
  rw[run_callFunc_extern Tryz.func335 (by kernel_rfl) (by kernel_rfl) (by kernel_rfl) (e:=XR #[38,38] #[4]) (by kernel_rfl),ho 4 _ Tryz.underlying38 (fun _=>rfl) lb cb];rfl
 clear ho;obtain⟨hb1,hb2,hb3,hb4,hb5,hb7,hb9⟩:=Dg hi hroom hm
 go_enter Tryz.func262,Tryz.ntmps262
 go_wp2_with (simp only[hov])
 go_region_law_o (refine mK rfl (eA rfl (v:=.slice (some ⟨b,off+(i+1)*3,none⟩) (n+1- (i+1)) (c- (i+1))) (u:=.slice (some ⟨b,off+i*3,none⟩) (n+1-i) (c-i)) (by simp[ZK,ZI]) (by simp[ZK,ZI]) (fun ty=>h1 ty _ _)) ?_)
 go_wp2_with (at_builtin;refine dL rfl (eA rfl rfl rfl (fun ty=>h2 ty _)) ?_)
 go_ret
 exact⟨rfl,rfl⟩
set_option maxRecDepth 100000 in
open Go.Shelf Go.RowKit Go.Lib in
theorem Di:G3 Tryz.prog 262 38 3 3:=by
 intro w W1 W2 W3 N b off n c i vb vo vc g hi hnc hcn hg hm h0 h1 h2;have mixed:Tryz.prog.follows Yq=true:=mixed;obtain⟨hb1,hb2,hb3,hb4,hb5,hb6,hb7,hb8⟩:=Dh hi hnc hcn hg hm
 go_enter Tryz.func262,Tryz.ntmps262
 go_wp2_with (first
  |(at_builtin;refine dL rfl (mQ rfl rfl rfl h0) ?_)
  |(at_builtin;refine dL rfl (eA rfl rfl rfl (fun ty=>h1 ty _)) ?_)
  |(at_builtin;refine dL rfl (eA rfl rfl rfl (fun ty=>h2 ty _ _)) ?_))
 go_region_law_o (refine mK rfl (eA rfl (v:=.slice (some ⟨N,(i+1)*3,none⟩) (n+1- (i+1)) (g- (i+1))) (u:=.slice (some ⟨b,off+i*3,none⟩) (n-i) (c-i)) (by simp[ZK,ZI]) (by simp[ZK,ZI]) (fun ty=>h2 ty _ _)) ?_)
 go_wp2
 go_ret
 exact⟨rfl,rfl⟩
set_option maxRecDepth 100000 in
open Go.Shelf Go.RowKit Go.Lib in
theorem Bn:G0 Tryz.prog 145 39:=by
 intro w W base n c vb vo vc v hnc hm hb hr;have mixed:Tryz.prog.follows Yq=true:=mixed
 go_enter Tryz.func145,Tryz.ntmps145
 rcases base with _|⟨ab,ao,asp⟩
 ·obtain rfl:=hb rfl;obtain rfl:n=0:=by omega
  go_wp2_with (at_builtin;refine dL rfl (mQ rfl rfl rfl hr) ?_)
  go_ret;exact⟨rfl,rfl⟩
 ·go_wp2_with (at_builtin;refine dL rfl (mQ rfl rfl rfl hr) ?_)
  all_goals(go_ret;exact⟨rfl,rfl⟩)
set_option maxRecDepth 100000 in
open Go.Shelf Go.RowKit Go.Lib in
theorem Bp:G4 Tryz.prog 145 39 3:=by
 intro w W1 W2 b off n c i vb vo vc hi hroom hm ho h1 h2;have mixed:Tryz.prog.follows Yq=true:=mixed;have hov:∀ lb cb,(callFunc 263 #[.slice (some ⟨vb,vo,none⟩) 1 vc,.slice (some ⟨b,off+(i+1)*3,none⟩) lb cb]).run Tryz.prog w=.ok (.value (.bool false)) w:=fun lb cb=>by
  rw[run_callFunc_extern Tryz.func263 (by kernel_rfl) (by kernel_rfl) (by kernel_rfl) (e:=XR #[39,39] #[4]) (by kernel_rfl),ho 4 _ Tryz.underlying39 (fun _=>rfl) lb cb];rfl
 clear ho;obtain⟨hb1,hb2,hb3,hb4,hb5,hb7,hb9⟩:=Dg hi hroom hm
 go_enter Tryz.func145,Tryz.ntmps145
 go_wp2_with (simp only[hov])
 go_region_law_o (refine mK rfl (eA rfl (v:=.slice (some ⟨b,off+(i+1)*3,none⟩) (n+1- (i+1)) (c- (i+1))) (u:=.slice (some ⟨b,off+i*3,none⟩) (n+1-i) (c-i)) (by simp[ZK,ZI]) (by simp[ZK,ZI]) (fun ty=>h1 ty _ _)) ?_)
 go_wp2_with (at_builtin;refine dL rfl (eA rfl rfl rfl (fun ty=>h2 ty _)) ?_)
 go_ret
 exact⟨rfl,rfl⟩
set_option maxRecDepth 100000 in
open Go.Shelf Go.RowKit Go.Lib in
theorem Bo:G3 Tryz.prog 145 39 3 3:=by
 intro w W1 W2 W3 N b off n c i vb vo vc g hi hnc hcn hg hm h0 h1 h2;have mixed:Tryz.prog.follows Yq=true:=mixed;obtain⟨hb1,hb2,hb3,hb4,hb5,hb6,hb7,hb8⟩:=Dh hi hnc hcn hg hm
 go_enter Tryz.func145,Tryz.ntmps145
 go_wp2_with (first
  |(at_builtin;refine dL rfl (mQ rfl rfl rfl h0) ?_)
  |(at_builtin;refine dL rfl (eA rfl rfl rfl (fun ty=>h1 ty _)) ?_)
  |(at_builtin;refine dL rfl (eA rfl rfl rfl (fun ty=>h2 ty _ _)) ?_))
 go_region_law_o (refine mK rfl (eA rfl (v:=.slice (some ⟨N,(i+1)*3,none⟩) (n+1- (i+1)) (g- (i+1))) (u:=.slice (some ⟨b,off+i*3,none⟩) (n-i) (c-i)) (by simp[ZK,ZI]) (by simp[ZK,ZI]) (fun ty=>h2 ty _ _)) ?_)
 go_wp2
 go_ret
 exact⟨rfl,rfl⟩
set_option maxRecDepth 100000 in
open Go.Shelf Go.RowKit Go.Lib in
theorem Gg:G0 Tryz.prog 41 40:=by
 intro w W base n c vb vo vc v hnc hm hb hr;have mixed:Tryz.prog.follows Yq=true:=mixed
 go_enter Tryz.func41,Tryz.ntmps41
 rcases base with _|⟨ab,ao,asp⟩
 ·obtain rfl:=hb rfl;obtain rfl:n=0:=by omega
  go_wp2_with (at_builtin;refine dL rfl (mQ rfl rfl rfl hr) ?_)
  go_ret;exact⟨rfl,rfl⟩
 ·go_wp2_with (at_builtin;refine dL rfl (mQ rfl rfl rfl hr) ?_)
  all_goals(go_ret;exact⟨rfl,rfl⟩)
set_option maxRecDepth 100000 in
open Go.Shelf Go.RowKit Go.Lib in
theorem Gj:G4 Tryz.prog 41 40 4:=by
 intro w W1 W2 b off n c i vb vo vc hi hroom hm ho h1 h2;have mixed:Tryz.prog.follows Yq=true:=mixed;have hov:∀ lb cb,(callFunc 146 #[.slice (some ⟨vb,vo,none⟩) 1 vc,.slice (some ⟨b,off+(i+1)*4,none⟩) lb cb]).run Tryz.prog w=.ok (.value (.bool false)) w:=fun lb cb=>by
  rw[run_callFunc_extern Tryz.func146 (by kernel_rfl) (by kernel_rfl) (by kernel_rfl) (e:=XR #[40,40] #[4]) (by kernel_rfl),ho 4 _ Tryz.underlying40 (fun _=>rfl) lb cb];rfl
 clear ho;obtain⟨hb1,hb2,hb3,hb4,hb5,hb7,hb9⟩:=Dg hi hroom hm
 go_enter Tryz.func41,Tryz.ntmps41
 go_wp2_with (simp only[hov])
 go_region_law_o (refine mK rfl (eA rfl (v:=.slice (some ⟨b,off+(i+1)*4,none⟩) (n+1- (i+1)) (c- (i+1))) (u:=.slice (some ⟨b,off+i*4,none⟩) (n+1-i) (c-i)) (by simp[ZK,ZI]) (by simp[ZK,ZI]) (fun ty=>h1 ty _ _)) ?_)
 go_wp2_with (at_builtin;refine dL rfl (eA rfl rfl rfl (fun ty=>h2 ty _)) ?_)
 go_ret
 exact⟨rfl,rfl⟩
set_option maxRecDepth 100000 in
open Go.Shelf Go.RowKit Go.Lib in
theorem Gi:G3 Tryz.prog 41 40 3 4:=by
 intro w W1 W2 W3 N b off n c i vb vo vc g hi hnc hcn hg hm h0 h1 h2;have mixed:Tryz.prog.follows Yq=true:=mixed;obtain⟨hb1,hb2,hb3,hb4,hb5,hb6,hb7,hb8⟩:=Dh hi hnc hcn hg hm
 go_enter Tryz.func41,Tryz.ntmps41
 go_wp2_with (first
  |(at_builtin;refine dL rfl (mQ rfl rfl rfl h0) ?_)
  |(at_builtin;refine dL rfl (eA rfl rfl rfl (fun ty=>h1 ty _)) ?_)
  |(at_builtin;refine dL rfl (eA rfl rfl rfl (fun ty=>h2 ty _ _)) ?_))
 go_region_law_o (refine mK rfl (eA rfl (v:=.slice (some ⟨N,(i+1)*4,none⟩) (n+1- (i+1)) (g- (i+1))) (u:=.slice (some ⟨b,off+i*4,none⟩) (n-i) (c-i)) (by simp[ZK,ZI]) (by simp[ZK,ZI]) (fun ty=>h2 ty _ _)) ?_)
 go_wp2
 go_ret
 exact⟨rfl,rfl⟩
def am:EO:=fun F=>fun
 |[.one (.s 3 es),.one (.v (.int Za i)),.one (.s 3 x)]=>some (fun _=>0<=i/\i<=es.length/\es.length<=1073741824/\bE es/\bE x/\x.length=1,[.one (.s 3 (F.inL es i x))])
 |_=>none
theorem cF:eo 262 am:=by
 intro _ _ _ h hp;dsimp only[am,F0]at h;split at h<;>cases h
 rename_i es i x;obtain⟨i0,i1,l,s1,s2,x1⟩:=hp;obtain⟨r,rfl⟩:=XS.1 x1;exact wj (sz:=3) tQ rfl rfl (by decide) Tryz.underlying3 Df Dj Di ⟨i0,i1,l⟩ s1 s2
theorem cA:eo 145 am:=by
 intro _ _ _ h hp;dsimp only[am,F0]at h;split at h<;>cases h
 rename_i es i x;obtain⟨i0,i1,l,s1,s2,x1⟩:=hp;obtain⟨r,rfl⟩:=XS.1 x1;exact wj (sz:=3) tQ rfl rfl (by decide) Tryz.underlying3 Bn Bp Bo ⟨i0,i1,l⟩ s1 s2
def bB:EO:=fun F=>fun
 |[.one (.s 4 es),.one (.v (.int Za i)),.one (.s 4 x)]=>some (fun _=>0<=i/\i<=es.length/\es.length<=1073741824/\bE es/\bE x/\x.length=1,[.one (.s 4 (F.inL es i x))])
 |_=>none
theorem cI:eo 41 bB:=by
 intro _ _ _ h hp;dsimp only[bB,F0]at h;split at h<;>cases h
 rename_i es i x;obtain⟨i0,i1,l,s1,s2,x1⟩:=hp;obtain⟨r,rfl⟩:=XS.1 x1;exact wj (sz:=4) tQ rfl rfl (by decide) Tryz.underlying3 Gg Gj Gi ⟨i0,i1,l⟩ s1 s2
abbrev Ze3:dp:=d4 (fun F f=>match f with|54=>cZ F|_=>fun _=>none) (by
 intro f;dsimp only;split;exact d7;exact dB)
def ie:EP:=fun F=>fun
 |[.mp [.own (.s 1 cs),.own (.s 1 us),.own (.s 2 es),.own (.v (.int Za c)),.own (.s 1 rs)],.one (.v (.int Za a)),.one (.v (.int Za n))]=>some (fun _=>Rw [.sl [tI]] cs/\Rw [tI,tI] es/\lM cs us es/\0<=a/\a<=9223372036854775807/\peM es (a/16)≠0/\0<=n/\a%16+n<=16,[[.own (.s 1 (F.tcC cs es a n)),.own (.s 1 us),.own (.s 2 es),.own (.i c),.own (.s 1 rs)]],[])
 |_=>none
theorem qz:ep 55 ie:=by
 intro _ _ _ _ h hp;dsimp only[ie,F0]at h;split at h<;>cases h
 rename_i cs us es c rs a n;obtain⟨wc,we,km,a0,a1,hm,n0,n1⟩:=hp;have fr:=IL km hm;have e1:bO .quo Za a 16=a/16:=BH (by omega) (by omega) (by omega);have e2:bO .rem Za a 16=a%16:=BK (by omega);refine pb Ze3 Tryz.func55 ?_
 intro O r os F hO hr hos hF;cbv
 repeat' first|apply Zd|(apply cP<;>intro hb<;>cbv)|(refine⟨[0,1,2,6,7],[0],Int×af,fun s_=>match s_ with|(i,d)=>[.reg 7 (.j i),.leaf 0 0 ⟨0,0,none,.own (.s 1 d)⟩],fun s_=>match s_ with|(i,d)=>0<=i/\i<=n/\OQ cs us es (peF es (a/16)) (a%16) i d,fun s_=>match s_ with|(i,d)=>(n-i).toNat,⟨(0,cs),?_,?_⟩,?_⟩;rotate_left;(focus (cbv;done));intro s_ hi;obtain⟨i,d⟩:=s_;replace hi:0<=i/\i<=n/\OQ cs us es (peF es (a/16)) (a%16) i d:=hi;obtain⟨i0,i1,i2⟩:=hi;cbv)|(refine ah (O.ar .add Za i 1,O.up (.s 1 d) [(O.ad 0 (F.peF (O.sub es 0 (O.ln es)) (O.ar .quo Za a 16)),0),(O.ad 0 (O.ar .add Za (O.ar .rem Za a 16) i),0)] [.i 0]) ?_ ?_ ?_;focus (cbv;done))
 all_goals((try subst hos);subst hO hr hF;(try simp only[nc]at*);(try simp only[aj,SS,sa,az]at*);(try simp only[eE]at*);(try rw[dx (by omega) (by omega)]);(try simp only[e1]at*);(try simp only[e2]at*);(try have e3:bO .add Za (a%16) i=a%16+i:=cG (by omega));(try simp only[e3]at*);(try have dl:=i2.m.u.symm.trans km.u);(try have lf:=i2.m.l (peF es (a/16)) fr.1 (by omega));(try have q:=JN i2 i0 hm rfl (by omega) (by omega)))
 all_goals first
  |(show(_:List DV)=_;exact rfl)
  | (show(_:List H)=_
     first
      |(have z:=Ms i2 (n:=n) (by omega) (by omega);rw[z];exact rfl)
      |done)
  |omega
  |exact we
  |exact Oi km wc
  |(rw[af7 i2.w fr.1 (by omega) (by omega) (by omega)];exact q)
  |exact aaE i2.w fr.1 (by omega) (by omega) (by omega)
  |exact qT i2.w fr.1 (by omega)
  |exact⟨by omega,by omega,vT i2.w fr.1 (by omega)⟩
  |(show ax _ _=true;kernel_rfl)
  |exact⟨Zb,Zb⟩
  |exact Zb
  |done
end Go.V