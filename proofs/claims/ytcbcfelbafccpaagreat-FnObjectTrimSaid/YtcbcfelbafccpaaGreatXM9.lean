/- Contracts. -/
import Derived.Test.YtcbcfelbafccpaaGreatXM6
set_option linter.all false
open Go
open And renaming intro->Zc
open IntKind renaming i64->Za
open True renaming intro->Zd
namespace Go.V
open Go Go.Proofs
set_option maxRecDepth 1000000
set_option maxHeartbeats 8000000
abbrev Jb4:dq:=dP (fun F f=>match f with|73=>d8 F|74=>gM F|19=>ah F|_=>fun _=>none) (by
 intro f;dsimp only;split;exact jS;exact nk;exact aw;exact dy)
def lX:EC:=fun F=>fun
 |[.agg [.s 1 cs,.s 1 us,.s 2 es],.one (.v (.int Za a)),.one (.v (.int Za v))]=>some (fun _=>Rw [.sl [tI]] cs/\Rw [tB] us/\Rw [tI,tI] es/\bC cs<=1099511627776/\bC us<=1099511627776/\bC es<=1099511627776/\Dl a,[.agg [.s 1 (F.stC cs us es a v),.s 1 us,.s 2 es],.j (F.stK cs us es a v)])
 |_=>none
def x8:ec 29 lX:=by
 intro _ _ _ h hp;dsimp only[lX,F0]at h;split at h<;>cases h
 rename_i cs us es a v;obtain⟨hc,hu,he,hn,hm,hk,ha⟩:=hp;refine cb Jb4 Tryz.func29 ?_
 intro O r F hO hr hF;cbv
 repeat' first|apply Zc|(apply cN<;>intro hb<;>cbv)
 all_goals(subst hO hr hF;(try simp only[nc]at*);(try simp only[am,SS,sa,az]at*);(try simp only[mo]at*);(try(have hs:=Ml (cs:=cs) (us:=us) (es:=es) (a:=a) Ud;have ha0:=(Ev (cs:=cs) (us:=us) (es:=es) (a:=a) Ud).2));(try simp only[tp (n:=16) ha0]at*))
 all_goals first|(show ay _ _=true;kernel_rfl)|exact⟨hc,hu,he,hn,hm,hk⟩|exact⟨hc,hu,he,ha⟩|exact Ey (aaA Ud).2.symm rfl rfl (aaA Ud).1.symm|exact Ey (aaC Ud).2.symm rfl rfl (aaC Ud).1.symm|exact Ey (aaD Ud Ud Ud).2.symm rfl rfl (aaD Ud Ud Ud).1.symm|exact Ey ((aaU hc hs.1 hs.2.1 Uc Uc).trans (aaz Ud Ud Ud).2.symm) rfl rfl (aaz Ud Ud Ud).1.symm|exact LE hc hs.1 hs.2.1 Uc Uc|exact yq hc hs.1 hs.2.1|exact⟨Uc,Uc,qq hc hs.1 hs.2.1⟩|exact⟨trivial,trivial⟩|trivial|omega|done
abbrev Jb6:dq:=dP (fun F f=>match f with|22=>ez F|28=>fS F|29=>lX F|_=>fun _=>none) (by
 intro f;dsimp only;split;exact jh;exact mL;exact x8;exact dy)
def lx:EC:=fun F=>fun
 |[.agg hl_,.one (.v (.int Za a)),.one (.v (.int Za v))]=>hL hl_ fun a0 a1 a2 a3 a4 a5 a6 a7 a8 a9 aA aB aC aD aE aF aG aH aI aJ aK aL aM aN=>(fun _=>tz a0 a1 a2 a4 a5 a6 a7 a8 a9 aA aB aD aL/\Dl a,[.agg (LH (F.hsC (F.hpI a0 a1 a2 a3 a4 a5 a6 a7 a8 a9 aA aB aC aD aE aF aG aH aI aJ aK aL aM aN) a0 a1 a2 a8 a v) a1 a2 a3 a4 a5 a6 a7 a8 a9 aA aB aC aD aE aF aG aH aI aJ aK aL aM aN),.j (F.hsK (F.hpI a0 a1 a2 a3 a4 a5 a6 a7 a8 a9 aA aB aC aD aE aF aG aH aI aJ aK aL aM aN) a0 a1 a2 a8 a v)])
 |_=>none
def rB:ec 8 lx:=by
 intro _ _ _ h hp;dsimp only[lx,F0,hL]at h;split at h;rotate_left;cases h;split at h<;>cases h
 rename_i a v _ a0 a1 a2 a3 a4 a5 a6 a7 a8 a9 aA aB aC aD aE aF aG aH aI aJ aK aL aM aN;obtain⟨hp,hA⟩:=hp;have c0:=hp.c0;have c1:=hp.c1;have c2:=hp.c2;refine cb Jb6 Tryz.func8 ?_
 intro O r F hO hr hF;cbv
 repeat' first|apply Zc|(apply cN<;>intro hb<;>cbv)
 all_goals(subst hO hr hF;(try simp only[nc]at*);(try simp only[am,SS,sa,az]at*))
 all_goals first
  | (show(_:List DV)=_
     first
      |(have q:=Se (k:=hpI a0 a1 a2 a3 a4 a5 a6 a7 a8 a9 aA aB aC aD aE aF aG aH aI aJ aK aL aM aN) (cs:=a0) (us:=a1) (es:=a2) (os:=a8) (a:=a) (v:=v) Uc;first|(first|(rw[q.1,q.2];done)|(rw[q.1,q.2];exact rfl))|(rw[q.1,q.2];exact rfl))
      |(have q:=acm (k:=hpI a0 a1 a2 a3 a4 a5 a6 a7 a8 a9 aA aB aC aD aE aF aG aH aI aJ aK aL aM aN) (cs:=a0) (us:=a1) (es:=a2) (os:=a8) (a:=a) (v:=v) Uc Ud;first|(first|(rw[q.1,q.2];done)|(rw[q.1,q.2];exact rfl))|(rw[q.1,q.2];exact rfl))
      |(have q:=acn (k:=hpI a0 a1 a2 a3 a4 a5 a6 a7 a8 a9 aA aB aC aD aE aF aG aH aI aJ aK aL aM aN) (cs:=a0) (us:=a1) (es:=a2) (os:=a8) (a:=a) (v:=v) Uc Ud;first|(first|(rw[q.1,q.2];done)|(rw[q.1,q.2];exact rfl))|(rw[q.1,q.2];exact rfl))
      |(have q:=acl (k:=hpI a0 a1 a2 a3 a4 a5 a6 a7 a8 a9 aA aB aC aD aE aF aG aH aI aJ aK aL aM aN) (cs:=a0) (us:=a1) (es:=a2) (os:=a8) (a:=a) (v:=v) Uc Uc Uc;first|(first|(rw[q.1,q.2];done)|(rw[q.1,q.2];exact rfl))|(rw[q.1,q.2];exact rfl))
      |done)
  |exact hp
  |exact hp.hp
  |exact⟨hp.hp,hA⟩
  |exact⟨hp.r0,hp.r1,hp.r2,Uc,Uc,Uc,hA⟩
  |(show ay _ _=true;kernel_rfl)
  |exact⟨Zd,Zd⟩
  |exact Zd
  |done
def gD:EC:=fun F=>fun
 |[.agg hl_,.one (.v (.int Za ad)),.one (.v (.int Za z))]=>hL hl_ fun a0 a1 a2 a3 a4 a5 a6 a7 a8 a9 aA aB aC aD aE aF aG aH aI aJ aK aL aM aN=>(fun _=>Qk (HV.mk a0 a1 a2 a3 a4 a5 a6 a7 a8 a9 aA aB aC aD aE aF aG aH aI aJ aK aL aM aN),[hvD (F.hTr (HV.mk a0 a1 a2 a3 a4 a5 a6 a7 a8 a9 aA aB aC aD aE aF aG aH aI aJ aK aL aM aN) ad z),.k (F.hR1 (HV.mk a0 a1 a2 a3 a4 a5 a6 a7 a8 a9 aA aB aC aD aE aF aG aH aI aJ aK aL aM aN) ad z)])
 |_=>none
def pT:ec 9 gD:=by
 intro _ _ _ h hp;dsimp only[gD,F0,hL]at h;split at h;rotate_left;cases h;split at h<;>cases h
 rename_i ad z _ a0 a1 a2 a3 a4 a5 a6 a7 a8 a9 aA aB aC aD aE aF aG aH aI aJ aK aL aM aN;have C:=HV.wf_hc hp.w;exact tF _ _ _ rfl C.1
def fX:EC:=fun F=>fun
 |[.agg hl_,.one (.v (.int Za a)),.one (.v (.int Za v))]=>hL hl_ fun a0 a1 a2 a3 a4 a5 a6 a7 a8 a9 aA aB aC aD aE aF aG aH aI aJ aK aL aM aN=>(fun _=>Qk (HV.mk a0 a1 a2 a3 a4 a5 a6 a7 a8 a9 aA aB aC aD aE aF aG aH aI aJ aK aL aM aN)/\Dl a,[hvD (F.hSt (HV.mk a0 a1 a2 a3 a4 a5 a6 a7 a8 a9 aA aB aC aD aE aF aG aH aI aJ aK aL aM aN) a v),.j (F.hS1 (HV.mk a0 a1 a2 a3 a4 a5 a6 a7 a8 a9 aA aB aC aD aE aF aG aH aI aJ aK aL aM aN) a v)])
 |_=>none
def pm:ec 8 fX:=by
 intro _ _ _ h hp;dsimp only[fX,F0,hL]at h;split at h;rotate_left;cases h;split at h<;>cases h
 rename_i a v _ a0 a1 a2 a3 a4 a5 a6 a7 a8 a9 aA aB aC aD aE aF aG aH aI aJ aK aL aM aN;have C:=HV.wf_hc hp.1.w;exact rB _ _ _ rfl ⟨C.1,hp.2⟩
abbrev Od0:dq:=dP (fun F f=>match f with|77=>cO F|_=>fun _=>none) (by
 intro f;dsimp only;split;exact dx;exact dy)
def gz:EC:=fun F=>fun
 |[.agg [.v (.int Za d0),.v (.int Za d1),.v (.int Za d2),.v (.int Za d3)],.ptr [.v (.int Za id)]]=>some (fun _=>True,[.k (F.eqB d0 id)])
 |_=>none
def pP:ec 37 gz:=by
 intro _ _ _ h hp;dsimp only[gz,F0]at h;split at h<;>cases h
 rename_i d0 d1 d2 d3 id;refine cb Od0 Tryz.func37 ?_
 exact zq1
abbrev Od1:dq:=dP (fun F f=>match f with|37=>gz F|_=>fun _=>none) (by
 intro f;dsimp only;split;exact pP;exact dy)
def ba:EC:=fun F=>fun
 |[.one (.s 4 os),.fn 37 [[.v (.int Za id)]]]=>some (fun _=>Rw [tI,tI,tI,tI] os/\os.length<=1099511627776,[.j (F.oiI os id)])
 |_=>none
def cq:ec 36 ba:=by
 intro _ _ _ h hp;dsimp only[ba,F0]at h;split at h<;>cases h
 rename_i os id;obtain⟨hw,hn⟩:=hp;refine cb Od1 Tryz.func36 ?_
 intro O r F hO hr hF;cbv
 repeat' first|apply Zc|(apply cN<;>intro hb<;>cbv)|(refine⟨[0,1,7,8],[0],Int,fun i=>[.reg 8 (.j i)],fun i=>0<=i/\i<=((os.length:Nat):Int)/\upto (cI (wR os id)) i,fun i=>(os.length)-i.toNat,⟨0,?_,?_⟩,?_⟩;rotate_left;(focus (cbv;done));intro i hi;replace hi:0<=i/\i<=((os.length:Nat):Int)/\upto (cI (wR os id)) i:=hi;obtain⟨i0,i1,i2⟩:=hi;cbv)|(refine ai (O.ar .add Za i 1) ?_ ?_ ?_;focus (cbv;done))
 all_goals(subst hO hr hF;(try simp only[nc]at*);(try simp only[am,SS,sa,az]at*);(try rw[di Uc Uc]))
 all_goals first
  | (show(_:List DV)=_
     first
      |exact cg (dB i2 i0 Ud (show wR os id i=true from by assumption)).symm
      |exact cg (dL i2 Ud).symm
      |done)
  |omega
  |exact ga
  |(show(lk _ _).isSome=true;kernel_rfl)
  |exact bR
  |exact bL i2 (fE (show wR os id i=false from by assumption))
  |done
def jZ:EC:=fun F=>fun
 |[.agg hl_,.one (.v (.int Za a)),.one (.v (.int Za n))]=>hL hl_ fun a0 a1 a2 a3 a4 a5 a6 a7 a8 a9 aA aB aC aD aE aF aG aH aI aJ aK aL aM aN=>(fun _=>Rw [.sl [tI]] a0/\Rw [tI,tI] a2/\CeB a0 a2 a n,[.one (.s 1 (F.clL a0 a2 a n))])
 |_=>none
def uL:ec 38 jZ:=by
 intro _ _ _ h hp;dsimp only[jZ,F0,hL]at h;split at h;rotate_left;cases h;split at h<;>cases h
 rename_i a n _ a0 a1 a2 a3 a4 a5 a6 a7 a8 a9 aA aB aC aD aE aF aG aH aI aJ aK aL aM aN;obtain⟨hc,he,hC⟩:=hp;refine cb Od0 Tryz.func38 ?_
 intro O r F hO hr hF;cbv
 repeat' first|apply Zc|(apply cN<;>intro hb<;>cbv)|(refine⟨[1,2,3,7,8],[3,7],Int×af,fun s_=>match s_ with|(i,o)=>[.reg 8 (.j i),.reg 7 (.one (.vw 7 0 0 0 (O.ln o))),.leaf 7 0 ⟨0,0,none,.own (.s 1 o)⟩],fun s_=>match s_ with|(i,o)=>0<=i/\i<=n/\IJ a0 a2 a i o,fun s_=>match s_ with|(i,o)=>(n-i).toNat,⟨(0,[]),?_,?_⟩,?_⟩;rotate_left;(focus (cbv;done));intro s_ hi;obtain⟨i,o⟩:=s_;replace hi:0<=i/\i<=n/\IJ a0 a2 a i o:=hi;obtain⟨i0,i1,i2⟩:=hi;cbv)|(refine ai (O.ar .add Za i 1,O.cat o (O.sub [[.i (O.gi (O.gs a0 (F.peF a2 (O.ar .quo Za (O.ar .add Za a i) 16)) 0) (O.ar .rem Za (O.ar .add Za a i) 16) 0)]] 0 (O.ln [[.i (O.gi (O.gs a0 (F.peF a2 (O.ar .quo Za (O.ar .add Za a i) 16)) 0) (O.ar .rem Za (O.ar .add Za a i) 16) 0)]]))) ?_ ?_ ?_;focus (cbv;done))
 all_goals(subst hO hr hF;(try simp only[nc]at*);(try simp only[am,SS,sa,az]at*);(try have cb:=hC.b);(try have z:=Q7 hC i0 Ud);(try rw[z.2.1,z.2.2.1]at*);(try have f:=hC.f i i0 Ud);(try have hr:Rw [tI] (aO a0 (peF a2 ((a+i)/16)) 0):=Rw.sub (fs:=[.sl [tI]]) hc Uc rfl);(try rw[di Uc Uc]);(try have w1:=Jr i2 i0))
 all_goals first
  | (show(_:List DV)=_
     first
      |exact vZ (Jq i2 i1 Uc)
      |done)
  |omega
  |exact ga
  |exact Ng i2 i0
  |exact abJ
  |(constructor<;>(simp only[List.length_cons,List.length_nil];omega))
  |exact⟨Zd,Zd⟩
  |done
abbrev Od2:dq:=dP (fun F f=>match f with|12=>dS F|38=>jZ F|36=>ba F|_=>fun _=>none) (by
 intro f;dsimp only;split;exact eC;exact uL;exact cq;exact dy)
def mP:EC:=fun F=>fun
 |[.agg hl_,.one (.v (.int Za id))]=>hL hl_ fun a0 a1 a2 a3 a4 a5 a6 a7 a8 a9 aA aB aC aD aE aF aG aH aI aJ aK aL aM aN=>(fun _=>QM a0 a1 a2 a4 a5 a6 a7 a8 a9 aA aB aD aL,[.one (.s 1 (F.ctsL (F.hpI a0 a1 a2 a3 a4 a5 a6 a7 a8 a9 aA aB aC aD aE aF aG aH aI aJ aK aL aM aN) a8 a0 a2 id)),.k (F.ctsB (F.hpI a0 a1 a2 a3 a4 a5 a6 a7 a8 a9 aA aB aC aD aE aF aG aH aI aJ aK aL aM aN) a8 id)])
 |_=>none
def tC:ec 10 mP:=by
 intro _ _ _ h hp;dsimp only[mP,F0,hL]at h;split at h;rotate_left;cases h;split at h<;>cases h
 rename_i id _ a0 a1 a2 a3 a4 a5 a6 a7 a8 a9 aA aB aC aD aE aF aG aH aI aJ aK aL aM aN;have N:=hp.n;have how:=N.ow;have hol:=N.ol;refine cb Od2 Tryz.func10 ?_
 intro O r F hO hr hF;cbv
 repeat' first|apply Zc|(apply cN<;>intro hb<;>cbv)
 all_goals(subst hO hr hF;(try simp only[nc]at*);(try simp only[am,SS,sa,az]at*);(try have hok:hpI a0 a1 a2 a3 a4 a5 a6 a7 a8 a9 aA aB aC aD aE aF aG aH aI aJ aK aL aM aN=true:=Ud);(try have OC:=Hs N.ow Uc hok);(try have ol:=L0 (os:=a8) (id:=id) Uc))
 all_goals first
  | (show(_:List DV)=_
     first
      |(have q:=Jx (b:=(hpI a0 a1 a2 a3 a4 a5 a6 a7 a8 a9 aA aB aC aD aE aF aG aH aI aJ aK aL aM aN)) (os:=a8) (cs:=a0) (es:=a2) (id:=id) Uc;exact BW q.1.symm q.2.symm)
      |(have q:=Jw (b:=(hpI a0 a1 a2 a3 a4 a5 a6 a7 a8 a9 aA aB aC aD aE aF aG aH aI aJ aK aL aM aN)) (os:=a8) (cs:=a0) (es:=a2) (id:=id) Ud;exact BW q.1.symm q.2.symm)
      |(rw[hok];have q:=Nl (os:=a8) (cs:=a0) (es:=a2) (id:=id) Uc;exact BW q.1 q.2)
      |done)
  |omega
  |exact ga
  |(show ay _ _=true;kernel_rfl)
  |exact⟨how,Uc⟩
  |exact⟨hp.c,hp.e,Gb OC Uc Uc⟩
  |exact⟨Zd,Zd⟩
  |done
def gA:EC:=fun F=>fun
 |[.agg hl_,.one (.v (.int Za id))]=>hL hl_ fun a0 a1 a2 a3 a4 a5 a6 a7 a8 a9 aA aB aC aD aE aF aG aH aI aJ aK aL aM aN=>(fun _=>Qk (HV.mk a0 a1 a2 a3 a4 a5 a6 a7 a8 a9 aA aB aC aD aE aF aG aH aI aJ aK aL aM aN),[.one (.s 1 (F.hCL (HV.mk a0 a1 a2 a3 a4 a5 a6 a7 a8 a9 aA aB aC aD aE aF aG aH aI aJ aK aL aM aN) id)),.k (F.hCB (HV.mk a0 a1 a2 a3 a4 a5 a6 a7 a8 a9 aA aB aC aD aE aF aG aH aI aJ aK aL aM aN) id)])
 |_=>none
def pQ:ec 10 gA:=by
 intro _ _ _ h hp;dsimp only[gA,F0,hL]at h;split at h;rotate_left;cases h;split at h<;>cases h
 rename_i id _ a0 a1 a2 a3 a4 a5 a6 a7 a8 a9 aA aB aC aD aE aF aG aH aI aJ aK aL aM aN;exact tC _ _ _ rfl (HV.wf_hc hp.w).1.hp
def gB:EC:=fun F=>fun
 |[.agg hl_,.one (.v (.int Za a))]=>hL hl_ fun a0 a1 a2 a3 a4 a5 a6 a7 a8 a9 aA aB aC aD aE aF aG aH aI aJ aK aL aM aN=>(fun _=>Qk (HV.mk a0 a1 a2 a3 a4 a5 a6 a7 a8 a9 aA aB aC aD aE aF aG aH aI aJ aK aL aM aN)/\Dl a,[.j (F.hLv (HV.mk a0 a1 a2 a3 a4 a5 a6 a7 a8 a9 aA aB aC aD aE aF aG aH aI aJ aK aL aM aN) a),.j (F.hLk (HV.mk a0 a1 a2 a3 a4 a5 a6 a7 a8 a9 aA aB aC aD aE aF aG aH aI aJ aK aL aM aN) a)])
 |_=>none
def pR:ec 11 gB:=by
 intro _ _ _ h hp;dsimp only[gB,F0,hL]at h;split at h;rotate_left;cases h;split at h<;>cases h
 rename_i a _ a0 a1 a2 a3 a4 a5 a6 a7 a8 a9 aA aB aC aD aE aF aG aH aI aJ aK aL aM aN;exact tD _ _ _ rfl ⟨(HV.wf_hc hp.1.w).1.hp,hp.2⟩
def gH:EC:=fun F=>fun
 |[.one (.s 2 fs)]=>some (fun _=>Rw [tI,tI] fs,[.j (F.rgS fs)])
 |_=>none
def pX:ec 13 gH:=by
 intro _ _ _ h hp;dsimp only[gH,F0]at h;split at h<;>cases h
 rename_i fs;have hl:=hp.1;unfold maxLen at hl;refine cb nB Tryz.func13 ?_
 intro O r F hO hr hF;cbv
 repeat' first|apply Zc|(apply cN<;>intro hb<;>cbv)|(refine⟨[3,6,7,8],[],Int×Int,fun s_=>match s_ with|(i,n)=>[.reg 8 (.j i),.reg 3 (.j n)],fun s_=>match s_ with|(i,n)=>0<=i/\i<=(fs.length:Int)/\n=QG fs i.toNat,fun s_=>match s_ with|(i,n)=>fs.length-i.toNat,⟨(0,0),?_,?_⟩,?_⟩;rotate_left;(focus (cbv;done));intro s_ hi;obtain⟨i,n⟩:=s_;replace hi:0<=i/\i<=(fs.length:Int)/\n=QG fs i.toNat:=hi;obtain⟨i0,i1,i2⟩:=hi;cbv)|(refine ai (O.ar .add Za i 1,O.ar .add Za n (O.gi fs i 1)) ?_ ?_ ?_;focus (cbv;done))
 all_goals(subst hO hr hF;(try simp only[nc]at*);(try simp only[am,SS,sa,az]at*);(try rw[di Uc Uc]))
 all_goals first
  | (show(_:List DV)=_
     first
      |exact cg (i2.trans (by unfold rgS;rw[show i.toNat=fs.length by omega]))
      |done)
  |exact ga
  |omega
  |(rw[show(i+1).toNat=i.toNat+1 by omega];simp only[QG];rw[<-i2,Int.toNat_of_nonneg i0])
  |exact rfl
  |done
end Go.V