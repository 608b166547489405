/- Contracts. -/
import Derived.Test.YtpldpilhgjpkjaaGreatXM6
set_option linter.all false
open Go
open And renaming intro->Zd
open IntKind renaming i64->Za
open True renaming intro->Zb
namespace Go.V
open Go Go.Proofs
set_option maxRecDepth 1000000
set_option maxHeartbeats 8000000
abbrev Jb0:dp:=d4 (fun F f=>match f with|33=>ay F|64=>eQ F|_=>fun _=>none) (by
 intro f;dsimp only;split;exact aS;exact jg;exact dB)
def fS:EC:=fun F=>fun
 |[.agg [.s 1 b,.s 1 x],.one (.v (.int Za f))]=>some (fun _=>GO b x,[.k (F.htB b x f)])
 |_=>none
theorem mq:ec 158 fS:=by
 intro _ _ _ h hp;dsimp only[fS,F0]at h;split at h<;>cases h
 rename_i b x f;have hbl:=hp.bl;have hsb:bO .sub Za (b.length:Int) 1=b.length-1:=gg (by omega);refine cb Jb0 Tryz.func158 ?_
 intro O r F hO hr hF;cbv
 repeat' first|apply Zd|(apply cP<;>intro hb<;>cbv)
 all_goals(subst hO hr hF;(try simp only[nc]at*);(try simp only[aj,SS,sa,az]at*);(try simp only[hsb]at*))
 all_goals first
  | (show(_:List DV)=_
     first
      |exact av (aa3 (by assumption)).symm
      |exact av (aa4 (by assumption)).symm
      |exact av (aa5 (by assumption)).symm
      |exact av (aa6 (by assumption)).symm
      |done)
  |exact hp
  |(show ax _ _=true;kernel_rfl)
  |exact Zb
  |done
abbrev Jb2:dp:=d4 (fun F f=>match f with|136=>eM F|158=>fS F|_=>fun _=>none) (by
 intro f;dsimp only;split;exact jH;exact mq;exact dB)
def kx:EC:=fun F=>fun
 |[.agg [.s 1 b,.s 1 x],.one (.v (.int Za f))]=>some (fun _=>Rw [.sl [tI,tI]] b/\Rw [.sl [tI]] x/\ap b<=1073741824/\ap x<=1073741824,[.agg [.s 1 (F.dlB b x f),.s 1 (F.dlI b x f)],.k (F.dlOk b x f)])
 |_=>none
theorem vh:ec 72 kx:=by
 intro _ _ _ h hp;dsimp only[kx,F0]at h;split at h<;>cases h
 rename_i b x f;obtain⟨wb,wx,kb,cx⟩:=hp;have N:=zD wb wx kb cx;have lb:=aO (es:=b);have lx:=aO (es:=x);refine cb Jb2 Tryz.func72 ?_
 intro O r F hO hr hF;cbv
 repeat' first|apply Zd|(apply cP<;>intro hb<;>cbv)
 all_goals(subst hO hr hF;(try simp only[nc]at*);(try simp only[aj,SS,sa,az]at*);(try have ht:htB b x f=true:=(by assumption));(try have hi:=Da ht);(try have hg:=kV wb hi.1 hi.2);(try have ok:=aa8 ht (by assumption));(try have T:=Pq ok);(try have T2:0<=ag (aw b f 0) 0 0:=T.t0);(try have T3:ag (aw b f 0) 0 0<b.length:=T.t1);(try have T4:=T.l);(try have T5:ag (aw b f 0) 0 0<x.length:=by omega);(try simp only[List.map_cons,List.map_nil]at*);(try rw[ad7 wb hi.1 hi.2]);(try rw[TW wb hi.1 hi.2]);(try rw[TX wx T2 T5]))
 all_goals first
  | (show(_:List DV)=_
     first
      |(have q:=Ps (MZ (b:=b) (x:=x) (f:=f) (by assumption));exact yt q.1.symm q.2.symm (MZ (b:=b) (x:=x) (f:=f) (by assumption)).symm)
      |(have q:=Ps (M0 (b:=b) (x:=x) (f:=f) (by assumption));exact yt q.1.symm q.2.symm (M0 (b:=b) (x:=x) (f:=f) (by assumption)).symm)
      |(have q:=ad5 ok;exact yt q.1.symm (by rw[q.2,eE];rfl) ok.symm)
      |done)
  |omega
  |exact fK
  |(show ax _ _=true;kernel_rfl)
  |exact N
  |exact⟨wb,wx,by omega,by omega⟩
  |exact Bh wb hi.1 hi.2
  |exact yE wb hi.1 hi.2
  |exact Zb
  |exact⟨Zb,Zb⟩
  |exact⟨T2,T5⟩
  |exact ad6 T wb
  |exact TU T wb
  |exact⟨Zb,TU T wb⟩
  |exact qT wx T2 T5
  |exact TV wx T2 T5 cx rfl
  |exact HG wx T2 T5
  |exact HF wx T2 T5
  |exact TQ T wb
  |exact TR T kb
  |(rw[eE];exact TS T wb wx kb cx)
  |done
abbrev Jb3:dp:=d4 (fun F f=>match f with|36=>dO F|72=>kx F|17=>eP F|_=>fun _=>none) (by
 intro f;dsimp only;split;exact gC;exact vh;exact gu;exact dB)
def kB:EC:=fun F=>fun
 |[.agg hl_,.one (.v (.int Za f))]=>hL hl_ fun a0 a1 a2 a3 a4 a5 a6 a7 a8 a9 aA aB aC aD aE aF aG aH aI aJ aK aL aM aN=>(fun _=>lq a0 a1 a2 a4 a5 a6 a7 a8 a9 aA aB aD aL,[.agg (Lb a0 a1 a2 a3 a4 a5 a6 a7 a8 a9 (F.dvB (F.hpI a0 a1 a2 a3 a4 a5 a6 a7 a8 a9 aA aB aC aD aE aF aG aH aI aJ aK aL aM aN) aA aB f) (F.dvI (F.hpI a0 a1 a2 a3 a4 a5 a6 a7 a8 a9 aA aB aC aD aE aF aG aH aI aJ aK aL aM aN) aA aB f) aC aD aE aF aG aH aI aJ aK aL aM aN),.k (F.dvK (F.hpI a0 a1 a2 a3 a4 a5 a6 a7 a8 a9 aA aB aC aD aE aF aG aH aI aJ aK aL aM aN) aA aB f)])
 |_=>none
theorem pL:ec 18 kB:=by
 intro _ _ _ h hp;dsimp only[kB,F0,hL]at h;split at h;rotate_left;cases h;split at h<;>cases h
 rename_i f _ a0 a1 a2 a3 a4 a5 a6 a7 a8 a9 aA aB aC aD aE aF aG aH aI aJ aK aL aM aN;refine cb Jb3 Tryz.func18 ?_
 intro O r F hO hr hF;cbv
 repeat' first|apply Zd|(apply cP<;>intro hb<;>cbv)
 all_goals(subst hO hr hF;(try simp only[nc]at*);(try simp only[aj,SS,sa,az]at*))
 all_goals first
  | (show(_:List DV)=_
     first
      |(have q:=aeb (k:=hpI a0 a1 a2 a3 a4 a5 a6 a7 a8 a9 aA aB aC aD aE aF aG aH aI aJ aK aL aM aN) (b:=aA) (x:=aB) (f:=f) (by assumption);first|(first|(rw[q.1,q.2.1,q.2.2];done)|(rw[q.1,q.2.1,q.2.2];exact rfl))|(rw[q.1,q.2.1,q.2.2];exact rfl))
      |(have q:=T9 (k:=hpI a0 a1 a2 a3 a4 a5 a6 a7 a8 a9 aA aB aC aD aE aF aG aH aI aJ aK aL aM aN) (b:=aA) (x:=aB) (f:=f) (by assumption);first|(first|(rw[q.1,q.2.1,q.2.2];done)|(rw[q.1,q.2.1,q.2.2];exact rfl))|(rw[q.1,q.2.1,q.2.2];exact rfl))
      |(have q:=PD (k:=hpI a0 a1 a2 a3 a4 a5 a6 a7 a8 a9 aA aB aC aD aE aF aG aH aI aJ aK aL aM aN) (b:=aA) (x:=aB) (f:=f) (by assumption);first|(first|(rw[q.1,q.2.1,q.2.2];done)|(rw[q.1,q.2.1,q.2.2];exact rfl))|(rw[q.1,q.2.1,q.2.2];exact rfl))
      |(have q:=PD (k:=hpI a0 a1 a2 a3 a4 a5 a6 a7 a8 a9 aA aB aC aD aE aF aG aH aI aJ aK aL aM aN) (b:=aA) (x:=aB) (f:=f) (by assumption);first|(first|(rw[q.1,q.2.1,q.2.2,show dlOk aA aB f=true from(by assumption)];done)|(rw[q.1,q.2.1,q.2.2,show dlOk aA aB f=true from(by assumption)];exact rfl))|(rw[q.1,q.2.1,q.2.2,show dlOk aA aB f=true from(by assumption)];exact rfl))
      |done)
  |exact hp
  |exact hp.hp
  |exact⟨hp.r10,hp.r11,hp.c10,hp.c11⟩
  |(show ax _ _=true;kernel_rfl)
  |exact⟨Zb,Zb⟩
  |exact Zb
  |done
abbrev Zr1:dp:=d4 (fun F f=>match f with|253=>im F|135=>ed F|66=>fv F|_=>fun _=>none) (by
 intro f;dsimp only;split;exact oe;exact iL;exact ko;exact dB)
def jK:EC:=fun F=>fun
 |[.agg [.s 1 ls],.one (.v (.int Za k)),.one (.v (.int Za a))]=>some (fun _=>Rw [.sl [tI]] ls/\ap ls<=1073741824/\AN a,[.agg [.s 1 (F.cpLq ls k a)],.k (F.cpBq ls k a)])
 |_=>none
theorem tY:ec 163 jK:=by
 intro _ _ _ h hp;dsimp only[jK,F0]at h;split at h<;>cases h
 rename_i ls k a;obtain⟨hw,hc,ha⟩:=hp;have N:=IV hw (by omega);have ln:=aO (es:=ls);refine cb Zr1 Tryz.func163 ?_
 intro O r F hO hr hF;cbv
 repeat' first|apply Zd|(apply cP<;>intro hb<;>cbv)
 all_goals(subst hO hr hF;(try simp only[nc]at*);(try simp only[aj,SS,sa,az]at*);(try simp only[eE]at*);(try have ht:clB ls k=true:=(by assumption));(try have hi:=xU ht);(try have k1:k<ls.length:=(by omega));(try have hq:=Pn hw hc ht ha);(try simp only[ad2 hw ht]at*);(try have hw:=hw))
 all_goals first
  | (show(_:List DV)=_
     first
      |(have q:=adZ (a:=a) (by assumption:clB ls k=false);exact IC (Tz q).symm q.symm)
      |(have q:=ad0 (by assumption:caOk (x7 ls k a)=false);exact IC (Tz q).symm q.symm)
      |(have q:=ad1 ht (by assumption:caOk (x7 ls k a)=true);exact IC (TA q).symm q.symm)
      |done)
  | (show(_:List H)=_
     first
      |done)
  |omega
  |exact fK
  |exact N
  |exact⟨hw,by omega⟩
  |exact IV hq.1 hq.2
  |exact⟨hq.1,hq.2⟩
  |exact qT hw hi.1 k1
  |exact TL hw hc ht
  |exact HG hw hi.1 k1
  |exact HF hw hi.1 k1
  |exact⟨hi.1,k1⟩
  |exact⟨hi.1,by omega⟩
  |(show ax _ _=true;kernel_rfl)
  |exact⟨Zb,Zb⟩
  |exact Zb
  |done
abbrev Zr2:dp:=d4 (fun F f=>match f with|158=>fS F|136=>eM F|64=>eQ F|132=>du F|_=>fun _=>none) (by
 intro f;dsimp only;split;exact mq;exact jH;exact jg;exact eH;exact dB)
def oA:EC:=fun F=>fun
 |[.agg [.s 1 b,.s 1 x],.one (.v (.int Za f)),.agg [.v (.int Za to),.v (.int Za a)]]=>some (fun _=>Rw [.sl [tI,tI]] b/\Rw [.sl [tI]] x/\ap b<=1073741824/\ap x<=1073741824/\AN to/\AN a,[.agg [.s 1 (F.sdL b x f to a),.s 1 x],.k (F.sdB b x f to a)])
 |_=>none
theorem AU:ec 57 oA:=by
 intro _ _ _ h hp;dsimp only[oA,F0]at h;split at h<;>cases h
 rename_i b x f to a;obtain⟨wb,wx,kb,cx,ho,ha⟩:=hp;have N:=zD wb wx kb cx;have lb:=aO (es:=b);have lx:=aO (es:=x);refine cb Zr2 Tryz.func57 ?_
 intro O r F hO hr hF;cbv
 repeat' first|apply Zd|(apply cP<;>intro hb<;>cbv)
 all_goals(subst hO hr hF;(try simp only[nc]at*);(try simp only[aj,SS,sa,az]at*);(try simp only[eE]at*);(try have ht:htB b x f=true:=(by assumption));(try have hi:=Da ht);(try have hq:=RA wb hi.1 hi.2 kb ho ha);(try simp only[acK wb hi.1 hi.2]at*);(try have wb:=wb))
 all_goals first
  | (show(_:List DV)=_
     first
      |(have q:=afU (to:=to) (a:=a) (by assumption:htB b x f=false);exact yt (Ob q).symm rfl q.symm)
      |(have q:=afV (by assumption:mailOk (sdU b f to a) x=false);exact yt (Ob q).symm rfl q.symm)
      |(have q:=afW ht (by assumption:mailOk (sdU b f to a) x=true);exact yt (Oc q).symm rfl q.symm)
      |done)
  | (show(_:List H)=_
     first
      |done)
  |omega
  |exact fK
  |exact N
  |exact⟨wb,wx,by omega,by omega⟩
  |exact abU hq.1 wx (by omega) (by omega)
  |exact⟨hq.1,wx,by omega,by omega⟩
  |exact Bh wb hi.1 hi.2
  |exact acJ wb kb hi.1 hi.2
  |exact Mf wb hi.1 hi.2
  |exact Me wb hi.1 hi.2
  |exact⟨hi.1,hi.2⟩
  |(show ax _ _=true;kernel_rfl)
  |exact⟨Zb,Zb⟩
  |exact Zb
  |done
def kw:EC:=fun F=>fun
 |[.agg [.s 1 b,.s 1 x],.one (.v (.int Za t))]=>some (fun _=>Rw [.sl [tI,tI]] b/\Rw [.sl [tI]] x/\ap b<=1073741824/\ap x<=1073741824,[.agg [.s 1 b,.s 1 (F.coX b x t)],.one (.s 1 (F.coT b x t))])
 |_=>none
theorem vg:ec 74 kw:=by
 intro _ _ _ h hp;dsimp only[kw,F0]at h;split at h<;>cases h
 rename_i b x t;obtain⟨wb,wx,kb,cx⟩:=hp;have N:=zD wb wx kb cx;have lb:=aO (es:=b);have lx:=aO (es:=x);refine cb Zr2 Tryz.func74 ?_
 intro O r F hO hr hF;cbv
 repeat' first|apply Zd|(apply cP<;>intro hb<;>cbv)
 all_goals(subst hO hr hF;(try simp only[nc]at*);(try simp only[aj,SS,sa,az]at*);(try simp only[eE]at*);(try have ht:htB b x t=true:=(by assumption));(try have hi:=aa9 ht);(try have hg:=kV wx hi.1 hi.2);(try have g:=eX (es:=x) (i:=t) (j:=0));(try have l:(aw x t 0).length<=ap (aw x t 0):=(by unfold ap;omega));(try simp only[adY wx hi.1 hi.2]at*);(try have wx:=wx))
 all_goals first
  | (show(_:List DV)=_
     first
      |(have q:=adX (by assumption:htB b x t=false);rw[q.1,q.2];exact rfl)
      |(have q:=Tx ht;rw[q.1,q.2];exact rfl)
      |done)
  | (show(_:List H)=_
     first
      |done)
  |omega
  |exact fK
  |exact N
  |exact⟨wb,wx,by omega,by omega⟩
  |exact qT wx hi.1 hi.2
  |exact yE wx hi.1 hi.2
  |exact⟨hg,by omega⟩
  |exact hg.scal rfl
  |(simp only[List.length_nil];refine⟨?_,?_⟩<;>omega)
  |exact⟨hi.1,hi.2⟩
  |(show ax _ _=true;kernel_rfl)
  |exact⟨Zb,Zb⟩
  |exact Zb
  |done
abbrev Zr3:dp:={
 Φ:=tW
 F0:=F0
 ct:=fun F f=>match f with|162=>dG F|163=>jK F|_=>fun _=>none
 hc:=(by
  intro f;dsimp only;split;exact fq;exact tY;exact dB)
 pt:=fun F f=>match f with|76=>some (ig F)|_=>none
 hp:=(by
  intro f mk h;dsimp only at h;split at h<;>cases h
  exact qB)}
def iu:EP:=fun F=>fun
 |[.mp hl_,.one (.v (.int Za t)),.one (.v (.int Za ad))]=>hM hl_ fun a0 a1 a2 a3 a4 a5 a6 a7 a8 a9 aA aB aC aD aE aF aG aH aI aJ aK aL aM aN=>(fun _=>lq a0 a1 a2 a4 a5 a6 a7 a8 a9 aA aB aD aL/\kerOk a0 a1 a2 a3 a4=true/\a3≠100000/\a5.length<=65/\qj a6/\(∃ i,nU a6 ad i)/\0<=t/\t<a9.length,[(Lc (F.rcC aI aJ aK a0 a1 a2 a5 a6 a9 t ad) (F.rcU aI aJ aK a0 a1 a2 a5 a6 a9 t ad) (F.rcE aI aJ aK a0 a1 a2 a5 a6 a9 t ad) a3 a4 (F.rcF aI aJ aK a0 a1 a2 a5 a6 a9 t ad) (F.rcS aI aJ aK a0 a1 a2 a5 a6 a9 t ad) a7 a8 (F.rcD a6 a9 t ad) aA aB aC aD aE aF aG aH aI aJ aK aL aM aN)],[])
 |_=>none
theorem oj:ep 59 iu:=by
 intro _ _ _ _ h hp;dsimp only[iu,F0,hM]at h;split at h;rotate_left;cases h;split at h<;>cases h
 rename_i t ad _ a0 a1 a2 a3 a4 a5 a6 a7 a8 a9 aA aB aC aD aE aF aG aH aI aJ aK aL aM aN;obtain⟨hp,hk,hn,h5,g,⟨ix,v⟩,t0,t1⟩:=hp;have l6:=aO (es:=a6);have c6:=hp.c6;have c9:=hp.c9;have dn:=Dx (L:=a7) g v;have vi:=zy g v;have fs:=j6 g v;have vl:=v.l;have x0:(0:Int)<=ix:=(by omega);have x1:(ix:Int)<a6.length:=(by omega);have wc:=kV hp.r9 t0 t1;have gl:=eX (es:=a9) (i:=t) (j:=0);refine pb Zr3 Tryz.func59 ?_
 intro O r os F hO hr hos hF;cbv
 repeat' first|apply Zd|(apply cP<;>intro hb<;>cbv)
 all_goals((try subst hos);subst hO hr hF;(try simp only[nc]at*);(try simp only[aj,SS,sa,az]at*);(try simp only[eE]at*);(try simp only[dn.1]at*);(try simp only[dn.2.1,dn.2.2]at*);(try simp only[gV (l:=a6) (sz:=3) (j:=1) (i:=ix) x0]at*))
 all_goals first
  | (show(_:List DV)=_
     first
      |done)
  | (show(_:List H)=_
     first
      |(exfalso;have q:(1:Int)≠1:=(by assumption);exact q rfl)
      |(have b0:pw (aw a9 t 0) (ag a6 ix 1) ad=true:=(by assumption);have b:Ke a6 a9 t ad=true:=(NR g v).trans b0;have z:=afO (me:=aI) (kp:=aJ) (mv:=aK) (c:=a0) (u:=a1) (e:=a2) (f:=a5) b;rw[z.1,z.2.1,z.2.2.1,z.2.2.2.1,z.2.2.2.2.1,z.2.2.2.2.2,acE g v hp.r9 t0 t1 b0];exact rfl)
      |(have b0:pw (aw a9 t 0) (ag a6 ix 1) ad=false:=(by assumption);have b:Ke a6 a9 t ad=false:=(NR g v).trans b0;have z:=afN (me:=aI) (kp:=aJ) (mv:=aK) (c:=a0) (u:=a1) (e:=a2) (f:=a5) b;rw[z.1,z.2.1,z.2.2.1,z.2.2.2.1,z.2.2.2.2.1,z.2.2.2.2.2];exact rfl)
      |done)
  |omega
  |exact fK
  |exact⟨hp.r6,hp.r7⟩
  |exact⟨hp.r6,by omega⟩
  |exact⟨wc,by omega,by omega,by omega⟩
  |exact⟨hp,hk,hn,h5,g,ix,v⟩
  |exact tA hp.r6 x0 x1
  |exact tC hp.r6 x0 x1 (by decide)
  |exact Bg hp.r9 t0 t1
  |exact yk hp.r9 t0 t1
  |exact yE hp.r9 t0 t1
  |exact⟨t0,t1⟩
  |exact⟨x0,x1⟩
  |(show ax _ _=true;kernel_rfl)
  |exact⟨Zb,Zb⟩
  |exact Zb
  |done
abbrev Zs1:dp:={
 Φ:=tW
 F0:=F0
 ct:=fun F f=>match f with|36=>dO F|73=>kI F|74=>kw F|_=>fun _=>none
 hc:=(by
  intro f;dsimp only;split;exact gC;exact vz;exact vg;exact dB)
 pt:=fun F f=>match f with|59=>some (iu F)|_=>none
 hp:=(by
  intro f mk h;dsimp only at h;split at h<;>cases h
  exact oj)}
def kz:EC:=fun F=>fun
 |[.agg hl_,.one (.v (.int Za t))]=>hL hl_ fun a0 a1 a2 a3 a4 a5 a6 a7 a8 a9 aA aB aC aD aE aF aG aH aI aJ aK aL aM aN=>(fun _=>lq a0 a1 a2 a4 a5 a6 a7 a8 a9 aA aB aD aL/\ap a9<=1000000000/\ap aB<=1000000000,[.agg (Lb (F.ifR (F.t0B (F.hpI a0 a1 a2 a3 a4 a5 a6 a7 a8 a9 aA aB aC aD aE aF aG aH aI aJ aK aL aM aN) a3 t a9) (F.raC aI aJ aK a0 a1 a2 a5 a6 a9 t (F.coT aA aB t)) a0) (F.ifR (F.t0B (F.hpI a0 a1 a2 a3 a4 a5 a6 a7 a8 a9 aA aB aC aD aE aF aG aH aI aJ aK aL aM aN) a3 t a9) (F.raU aI aJ aK a0 a1 a2 a5 a6 a9 t (F.coT aA aB t)) a1) (F.ifR (F.t0B (F.hpI a0 a1 a2 a3 a4 a5 a6 a7 a8 a9 aA aB aC aD aE aF aG aH aI aJ aK aL aM aN) a3 t a9) (F.raE aI aJ aK a0 a1 a2 a5 a6 a9 t (F.coT aA aB t)) a2) a3 a4 (F.ifR (F.t0B (F.hpI a0 a1 a2 a3 a4 a5 a6 a7 a8 a9 aA aB aC aD aE aF aG aH aI aJ aK aL aM aN) a3 t a9) (F.raF aI aJ aK a0 a1 a2 a5 a6 a9 t (F.coT aA aB t)) a5) (F.ifR (F.t0B (F.hpI a0 a1 a2 a3 a4 a5 a6 a7 a8 a9 aA aB aC aD aE aF aG aH aI aJ aK aL aM aN) a3 t a9) (F.raS aI aJ aK a0 a1 a2 a5 a6 a9 t (F.coT aA aB t)) a6) a7 a8 (F.ifR (F.t0B (F.hpI a0 a1 a2 a3 a4 a5 a6 a7 a8 a9 aA aB aC aD aE aF aG aH aI aJ aK aL aM aN) a3 t a9) (F.raD aI aJ aK a0 a1 a2 a5 a6 a9 t (F.coT aA aB t)) a9) aA (F.ifR (F.t0B (F.hpI a0 a1 a2 a3 a4 a5 a6 a7 a8 a9 aA aB aC aD aE aF aG aH aI aJ aK aL aM aN) a3 t a9) (F.coX aA aB t) aB) aC aD aE aF aG aH aI aJ aK aL aM aN),.j (F.ifN (F.t0B (F.hpI a0 a1 a2 a3 a4 a5 a6 a7 a8 a9 aA aB aC aD aE aF aG aH aI aJ aK aL aM aN) a3 t a9) (F.lenI (F.coT aA aB t)) 0)])
 |_=>none
theorem pK:ec 19 kz:=by
 intro _ _ _ h hp;dsimp only[kz,F0,hL]at h;split at h;rotate_left;cases h;split at h<;>cases h
 rename_i t _ a0 a1 a2 a3 a4 a5 a6 a7 a8 a9 aA aB aC aD aE aF aG aH aI aJ aK aL aM aN;obtain⟨hp,h9,h11⟩:=hp;refine cb Zs1 Tryz.func19 ?_
 intro O r F hO hr hF;cbv
 repeat' first|apply Zd|(apply cP<;>intro hb<;>cbv)|(refine⟨[1,4,6,8,27,28,29],[4,6,22],Int×af×af×af×af×af×af,fun s_=>match s_ with|(i,c,u,e,f,s,x)=>[.reg 29 (.j i),.leaf 6 0 ⟨0,0,none,.own (.s 1 c)⟩,.leaf 6 1 ⟨0,0,none,.own (.s 1 u)⟩,.leaf 6 2 ⟨0,0,none,.own (.s 2 e)⟩,.leaf 6 5 ⟨0,0,none,.own (.s 2 f)⟩,.leaf 6 6 ⟨0,0,none,.own (.s 3 s)⟩,.leaf 6 9 ⟨0,0,none,.own (.s 1 x)⟩],fun s_=>match s_ with|(i,c,u,e,f,s,x)=>0<=i/\i<=((coT aA aB t).length:Int)/\G7 aI aJ aK t (coT aA aB t) ⟨⟨a0,a1,a2,a5,a6⟩,a9⟩ i c u e f s x,fun s_=>match s_ with|(i,c,u,e,f,s,x)=>((coT aA aB t).length-i).toNat,⟨(0,a0,a1,a2,a5,a6,a9),?_,?_⟩,?_⟩;rotate_left;(focus (cbv;done));intro s_ hi;obtain⟨i,c,u,e,f,s,x⟩:=s_;replace hi:0<=i/\i<=((coT aA aB t).length:Int)/\G7 aI aJ aK t (coT aA aB t) ⟨⟨a0,a1,a2,a5,a6⟩,a9⟩ i c u e f s x:=hi;obtain⟨i0,i1,i2⟩:=hi;cbv)|(refine ah (O.ar .add Za i 1,F.rcC aI aJ aK c u e f s x t (O.pi (.s 1 (F.coT aA aB t)) [(O.ad 0 i,0)]),F.rcU aI aJ aK c u e f s x t (O.pi (.s 1 (F.coT aA aB t)) [(O.ad 0 i,0)]),F.rcE aI aJ aK c u e f s x t (O.pi (.s 1 (F.coT aA aB t)) [(O.ad 0 i,0)]),F.rcF aI aJ aK c u e f s x t (O.pi (.s 1 (F.coT aA aB t)) [(O.ad 0 i,0)]),F.rcS aI aJ aK c u e f s x t (O.pi (.s 1 (F.coT aA aB t)) [(O.ad 0 i,0)]),F.rcD s x t (O.pi (.s 1 (F.coT aA aB t)) [(O.ad 0 i,0)])) ?_ ?_ ?_;focus (cbv;done))
 all_goals(subst hO hr hF;(try simp only[nc]at*);(try simp only[aj,SS,sa,az]at*);(try have gt:t0B (hpI a0 a1 a2 a3 a4 a5 a6 a7 a8 a9 aA aB aC aD aE aF aG aH aI aJ aK aL aM aN) a3 t a9=true:=(by assumption));(try have gt:=acW gt);(try have hk:=gt.1);(try have hn:=gt.2.1);(try have TT:=Pi hp h9 hk gt.2.2);(try have wr:=(HB (b:=aA) (t:=t) hp.r11 (by omega)).1);(try have lm:=(HB (b:=aA) (t:=t) hp.r11 (by omega)).2);(try rw[dx (by omega) (by omega)]);(try simp only[gV (l:=coT aA aB t) (sz:=1) (j:=0) (i:=i) i0]at*);(try have ht:=HC hp hk h11 hn TT i2 i0 (by omega));(try have E:=FC i2 (by omega)))
 all_goals first
  | (show(_:List DV)=_
     first
      |(rw[show t0B (hpI a0 a1 a2 a3 a4 a5 a6 a7 a8 a9 aA aB aC aD aE aF aG aH aI aJ aK aL aM aN) a3 t a9=false by assumption];exact rfl)
      |(rw[show t0B (hpI a0 a1 a2 a3 a4 a5 a6 a7 a8 a9 aA aB aC aD aE aF aG aH aI aJ aK aL aM aN) a3 t a9=true by assumption,E.1,E.2.1,E.2.2.1,E.2.2.2.1,E.2.2.2.2.1,E.2.2.2.2.2];exact rfl)
      |done)
  | (show(_:List H)=_
     first
      |done)
  |omega
  |exact fK
  |exact hp
  |exact hp.hp
  |exact⟨hp.r10,hp.r11,hp.c10,hp.c11⟩
  |exact abA wr i0 (by omega)
  |exact HC hp hk h11 hn TT i2 i0 (by omega)
  |exact NP
  |exact Jf i2 i0
  |(show ax _ _=true;kernel_rfl)
  |exact⟨Zb,Zb⟩
  |exact Zb
  |done
end Go.V