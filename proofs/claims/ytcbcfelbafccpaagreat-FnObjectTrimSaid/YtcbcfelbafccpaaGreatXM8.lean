/- Contracts. -/
import Derived.Test.YtcbcfelbafccpaaGreatXM7
set_option linter.all false
open Go
open And renaming intro->Zc
open IntKind renaming i64->Za
open Nat renaming le_trans->ZA
open True renaming intro->Zd
namespace Go.V
open Go Go.Proofs
set_option maxRecDepth 1000000
set_option maxHeartbeats 8000000
abbrev Zq0:dq:={
 Φ:=wC
 F0:=F0
 ct:=fun F f=>match f with|68=>cF F|_=>fun _=>none
 hc:=(by
  intro f;dsimp only;split;exact je;exact dy)
 pt:=fun F f=>match f with|66=>some (fm F)|_=>none
 hp:=(by
  intro f mk h;dsimp only at h;split at h<;>cases h
  exact lm)
 ot:=fun F f=>match f with|69=>some (ak F)|_=>none
 ho:=(by
  intro f mk h;dsimp only at h;split at h<;>cases h
  exact cA)}
def iB:EP:=fun F=>fun
 |[.mp hl_,.one (.v (.int Za z))]=>hM hl_ fun a0 a1 a2 a3 a4 a5 a6 a7 a8 a9 aA aB aC aD aE aF aG aH aI aJ aK aL aM aN=>(fun _=>tz a0 a1 a2 a4 a5 a6 a7 a8 a9 aA aB aD aL/\kerOk a0 a1 a2 a3 a4=true/\0<=a3/\a3<=90000/\Dl z/\bC a7<=1000000000,[(Qw (F.xpC a0 a1 a2 a3 a4 a5 (F.pfN z)) (F.xpU a0 a1 a2 a3 a4 a5 (F.pfN z)) (F.xpE a0 a1 a2 a3 a4 a5 (F.pfN z)) (F.xpK a1 a2 a3 a4 a5 (F.pfN z)) a4 (F.xpF a1 a2 a3 a4 a5 (F.pfN z)) a6 (F.xlL a1 a2 a3 a4 a5 a7 z) a8 a9 aA aB aC aD aE aF aG aH aI aJ aK aL aM aN)],[.j (F.xlA a1 a2 a3 a4 a5 z),.k (F.xpB a1 a2 a3 a4 a5 (F.pfN z))])
 |_=>none
def rL:ep 26 iB:=by
 intro _ _ _ _ h hp;dsimp only[iB,F0,hM]at h;split at h;rotate_left;cases h;split at h<;>cases h
 rename_i z _ a0 a1 a2 a3 a4 a5 a6 a7 a8 a9 aA aB aC aD aE aF aG aH aI aJ aK aL aM aN;obtain⟨hp,hk,c0,c1,⟨z0,z1⟩,c7⟩:=hp;have l7:=bj (es:=a7);have h7:=hp.r7;refine pb Zq0 Tryz.func26 ?_
 intro O r os F hO hr hos hF;cbv
 repeat' first|apply Zc|(apply cN<;>intro hb<;>cbv)|(refine⟨[0,1,6,8],[0],Int,fun i=>[.reg 8 (.j i)],fun i=>0<=i/\i<=((a7.length:Nat):Int)/\upto (cI (E7 a7 0 (xpA a1 a2 a3 a4 a5 (pfN z)))) i,fun i=>(a7.length)-i.toNat,⟨0,?_,?_⟩,?_⟩;rotate_left;(focus (cbv;done));intro i hi;replace hi:0<=i/\i<=((a7.length:Nat):Int)/\upto (cI (E7 a7 0 (xpA a1 a2 a3 a4 a5 (pfN z)))) i:=hi;obtain⟨i0,i1,i2⟩:=hi;cbv)|(refine ai (O.ar .add Za i 1) ?_ ?_ ?_;focus (cbv;done))
 all_goals((try subst hos);subst hO hr hF;(try simp only[nc]at*);(try simp only[am,SS,sa,az]at*);(try rw[di Uc Uc]);(try simp only[lG (l:=a7) (sz:=3) (j:=0) i0]at*);(try have xb:xpB a1 a2 a3 a4 a5 (pfN z)=true:=Ud);(try have pg:=IF xb);(try have e1:bK .mul Za (xpA a1 a2 a3 a4 a5 (pfN z)) 16=xpA a1 a2 a3 a4 a5 (pfN z)*16:=vF Uc);(try have zi:=DW i2 i0 Uc (by omega:xpA a1 a2 a3 a4 a5 (pfN z)<=ag a7 i 0));(try have zi:=yA i2 Uc Uc);(try have y:=adN (a7:=a7) xb);(try have y:=abe (a7:=a7) (by assumption:xpB a1 a2 a3 a4 a5 (pfN z)=false)))
 all_goals first
  | (show(_:List DV)=_
     first
      |(first|(rw[y.2,xb,e1];done)|(rw[y.2,xb,e1];exact rfl))
      |(first|(rw[y.2,(by assumption:xpB a1 a2 a3 a4 a5 (pfN z)=false)];done)|(rw[y.2,(by assumption:xpB a1 a2 a3 a4 a5 (pfN z)=false)];exact rfl))
      |done)
  | (show(_:List H)=_
     first
      |(first|(rw[y.1];done)|(rw[y.1];exact rfl))
      |(first|(rw[y.1, <-zi];done)|(rw[y.1, <-zi];exact rfl))
      |done)
  |omega
  |exact ga
  |exact⟨hp,hk,c0,c1,adg z0 z1⟩
  |exact bR
  |exact Oi i2 Uc
  |exact DX h7 i0 Uc (by decide)
  |exact⟨i0,Uc,Uc,Rw.scal (fs:=[tI,tI,tI]) h7 rfl,by simp[bN,iS,scal],rfl⟩
  |(show ay _ _=true;kernel_rfl)
  |exact⟨Zd,Zd⟩
  |exact Zd
  |done
abbrev Zq2:dq:={
 Φ:=wC
 F0:=F0
 ct:=fun F f=>match f with|22=>ez F|12=>dS F|19=>ah F|23=>iq F|24=>eU F|52=>ah F|_=>fun _=>none
 hc:=(by
  intro f;dsimp only;split;exact jh;exact eC;exact aw;exact rF;exact jP;exact be;exact dy)
 pt:=fun F f=>match f with|25=>some (iC F)|26=>some (iB F)|_=>none
 hp:=(by
  intro f mk h;dsimp only at h;split at h<;>cases h
  exact rM;exact rL)
 ot:=fun F f=>match f with|27=>some (bA F)|_=>none
 ho:=(by
  intro f mk h;dsimp only at h;split at h<;>cases h
  exact cG)}
def lr:EC:=fun F=>fun
 |[.agg hl_,.one (.v (.int Za t)),.one (.v (.int Za z))]=>hL hl_ fun a0 a1 a2 a3 a4 a5 a6 a7 a8 a9 aA aB aC aD aE aF aG aH aI aJ aK aL aM aN=>(fun _=>tz a0 a1 a2 a4 a5 a6 a7 a8 a9 aA aB aD aL/\bC a6<=1000000000/\bC a7<=1000000000/\bC a8<=1000000000/\bC a9<=300000000/\Dl t/\Dl z,[.agg (LH (F.xaC (F.xaO (F.hpI a0 a1 a2 a3 a4 a5 a6 a7 a8 a9 aA aB aC aD aE aF aG aH aI aJ aK aL aM aN) a3 a8 a9 aG aH t z) a0 a1 a2 a3 a4 a5 a6 a7 a9 aE aI aJ aK t z) (F.xaU (F.xaO (F.hpI a0 a1 a2 a3 a4 a5 a6 a7 a8 a9 aA aB aC aD aE aF aG aH aI aJ aK aL aM aN) a3 a8 a9 aG aH t z) a0 a1 a2 a3 a4 a5 a6 a7 a9 aE aI aJ aK t z) (F.xaE (F.xaO (F.hpI a0 a1 a2 a3 a4 a5 a6 a7 a8 a9 aA aB aC aD aE aF aG aH aI aJ aK aL aM aN) a3 a8 a9 aG aH t z) a0 a1 a2 a3 a4 a5 a6 a7 a9 aE aI aJ aK t z) (F.xaK (F.xaO (F.hpI a0 a1 a2 a3 a4 a5 a6 a7 a8 a9 aA aB aC aD aE aF aG aH aI aJ aK aL aM aN) a3 a8 a9 aG aH t z) a0 a1 a2 a3 a4 a5 a6 a7 a9 aE aI aJ aK t z) a4 (F.xaF (F.xaO (F.hpI a0 a1 a2 a3 a4 a5 a6 a7 a8 a9 aA aB aC aD aE aF aG aH aI aJ aK aL aM aN) a3 a8 a9 aG aH t z) a0 a1 a2 a3 a4 a5 a6 a7 a9 aE aI aJ aK t z) (F.xaS (F.xaO (F.hpI a0 a1 a2 a3 a4 a5 a6 a7 a8 a9 aA aB aC aD aE aF aG aH aI aJ aK aL aM aN) a3 a8 a9 aG aH t z) a0 a1 a2 a3 a4 a5 a6 a7 a9 aE aI aJ aK t z) (F.xaL (F.xaO (F.hpI a0 a1 a2 a3 a4 a5 a6 a7 a8 a9 aA aB aC aD aE aF aG aH aI aJ aK aL aM aN) a3 a8 a9 aG aH t z) a0 a1 a2 a3 a4 a5 a6 a7 a9 aE aI aJ aK t z) (F.xaP a8 aH t z (F.xaA (F.xaO (F.hpI a0 a1 a2 a3 a4 a5 a6 a7 a8 a9 aA aB aC aD aE aF aG aH aI aJ aK aL aM aN) a3 a8 a9 aG aH t z) a0 a1 a2 a3 a4 a5 a6 a7 a9 aE aI aJ aK t z)) (F.xaX (F.xaO (F.hpI a0 a1 a2 a3 a4 a5 a6 a7 a8 a9 aA aB aC aD aE aF aG aH aI aJ aK aL aM aN) a3 a8 a9 aG aH t z) a0 a1 a2 a3 a4 a5 a6 a7 a9 aE aI aJ aK t z) aA aB aC aD (F.xaD (F.xaO (F.hpI a0 a1 a2 a3 a4 a5 a6 a7 a8 a9 aA aB aC aD aE aF aG aH aI aJ aK aL aM aN) a3 a8 a9 aG aH t z) a0 a1 a2 a3 a4 a5 a6 a7 a9 aE aI aJ aK t z) aF aG (F.xaN aH (F.xaA (F.xaO (F.hpI a0 a1 a2 a3 a4 a5 a6 a7 a8 a9 aA aB aC aD aE aF aG aH aI aJ aK aL aM aN) a3 a8 a9 aG aH t z) a0 a1 a2 a3 a4 a5 a6 a7 a9 aE aI aJ aK t z)) aI aJ aK aL aM aN),.j (F.xaA (F.xaO (F.hpI a0 a1 a2 a3 a4 a5 a6 a7 a8 a9 aA aB aC aD aE aF aG aH aI aJ aK aL aM aN) a3 a8 a9 aG aH t z) a0 a1 a2 a3 a4 a5 a6 a7 a9 aE aI aJ aK t z),.j (F.xaR (F.xaG (F.hpI a0 a1 a2 a3 a4 a5 a6 a7 a8 a9 aA aB aC aD aE aF aG aH aI aJ aK aL aM aN) a3 a8 a9 aG aH t z) (F.xaA (F.xaO (F.hpI a0 a1 a2 a3 a4 a5 a6 a7 a8 a9 aA aB aC aD aE aF aG aH aI aJ aK aL aM aN) a3 a8 a9 aG aH t z) a0 a1 a2 a3 a4 a5 a6 a7 a9 aE aI aJ aK t z))])
 |_=>none
def rz:ec 7 lr:=by
 intro _ _ _ h hp;dsimp only[lr,F0,hL]at h;split at h;rotate_left;cases h;split at h<;>cases h
 rename_i t z _ a0 a1 a2 a3 a4 a5 a6 a7 a8 a9 aA aB aC aD aE aF aG aH aI aJ aK aL aM aN;obtain⟨hp,c6,c7,c8,c9,ht,hz⟩:=hp;have l8:=bj (es:=a8);have l9:=bj (es:=a9);have h8:=hp.r8;have c8':=hp.c8;have c9':=hp.c9;have e0:bK .sub Za (a9.length:Int) 1=a9.length-1:=fC Uc;obtain⟨w,hw⟩:∃ w,xaA (xaO (hpI a0 a1 a2 a3 a4 a5 a6 a7 a8 a9 aA aB aC aD aE aF aG aH aI aJ aK aL aM aN) a3 a8 a9 aG aH t z) a0 a1 a2 a3 a4 a5 a6 a7 a9 aE aI aJ aK t z=w:=⟨_,rfl⟩;refine cb Zq2 Tryz.func7 ?_
 intro O r F hO hr hF;cbv
 repeat' first|apply Zc|(apply cN<;>intro hb<;>cbv)|(refine⟨[1,2,3,6,9,10,13],[3,6,9],Int,fun i=>[.reg 13 (.j i)],fun i=>0<=i/\i<=((a8.length:Nat):Int)/\upto (cI (E7 a8 1 w)) i,fun i=>(a8.length)-i.toNat,⟨0,?_,?_⟩,?_⟩;rotate_left;(focus (cbv;done));intro i hi;replace hi:0<=i/\i<=((a8.length:Nat):Int)/\upto (cI (E7 a8 1 w)) i:=hi;obtain⟨i0,i1,i2⟩:=hi;cbv)|(refine ai (O.ar .add Za i 1) ?_ ?_ ?_;focus (cbv;done))
 all_goals(subst hO hr hF;(try simp only[nc]at*);(try simp only[am,SS,sa,az]at*);(try simp only[e0]at*);(try rw[di Uc Uc]);(try simp only[lG (l:=a8) (sz:=4) (j:=1) i0]at*);(try have hk:hpI a0 a1 a2 a3 a4 a5 a6 a7 a8 a9 aA aB aC aD aE aF aG aH aI aJ aK aL aM aN=true:=Ud);(try have HH:=qt hk);(try have hx:=bB.1 HH.x);(try have c0:=(lA HH.k).2.1);(try have ti:inR t 0 (a9.length-1)=true:=Ud);(try have zi':inR z 1 1000=true:=Ud);(try have cz:=ID (h:=hpI a0 a1 a2 a3 a4 a5 a6 a7 a8 a9 aA aB aC aD aE aF aG aH aI aJ aK aL aM aN) (a3:=a3) (a8:=a8) (a9:=a9) (aG:=aG) (aH:=aH) (t:=t) (z:=z) (.inl Ud));(try have cz:=ID (h:=hpI a0 a1 a2 a3 a4 a5 a6 a7 a8 a9 aA aB aC aD aE aF aG aH aI aJ aK aL aM aN) (a3:=a3) (a8:=a8) (a9:=a9) (aG:=aG) (aH:=aH) (t:=t) (z:=z) (.inr (.inl (by omega:aH=1000000))));(try have cz:=ID (h:=hpI a0 a1 a2 a3 a4 a5 a6 a7 a8 a9 aA aB aC aD aE aF aG aH aI aJ aK aL aM aN) (a3:=a3) (a8:=a8) (a9:=a9) (aG:=aG) (aH:=aH) (t:=t) (z:=z) (.inr (.inr (by omega:90000<a3))));(try have cz:=aa2 (a8:=a8) (aG:=aG) (z:=z) hk (by omega:aH≠1000000) Uc (by assumption:inR t 0 (a9.length-1)=false));(try have cz:=aa3 (a8:=a8) (aG:=aG) hk (by omega:aH≠1000000) Uc ti (by assumption:inR z 1 1000=false));(try have cz:=aa4 hk (by omega:aH≠1000000) Uc ti zi' (by omega:aG<bK .add Za (lsI a8) z));(try have cz:=aa5 hk (by omega:aH≠1000000) Uc ti zi' (by omega:bK .add Za (lsI a8) z<=aG));(try have q:=adK (a0:=a0) (a1:=a1) (a2:=a2) (a3:=a3) (a4:=a4) (a5:=a5) (a6:=a6) (a7:=a7) (a9:=a9) (aE:=aE) (aI:=aI) (aJ:=aJ) (aK:=aK) (t:=t) (z:=z) (aa6 cz (by decide)));(try have hm:w= -1:=hw.symm.trans q.2.2.2.2.2.2.2.2.2);(try have q:=adL (a0:=a0) (a1:=a1) (a2:=a2) (a3:=a3) (a4:=a4) (a5:=a5) (a6:=a6) (a7:=a7) (a9:=a9) (aE:=aE) (aI:=aI) (aJ:=aJ) (aK:=aK) (t:=t) (Mv cz) (by omega:0<=clsOf z));(try have q:=adJ (a0:=a0) (a1:=a1) (a2:=a2) (a3:=a3) (a4:=a4) (a5:=a5) (a6:=a6) (a7:=a7) (a9:=a9) (aE:=aE) (aI:=aI) (aJ:=aJ) (aK:=aK) (t:=t) (Mv cz) (by omega:clsOf z<0));(try have hv:xmA a0 a1 a2 a3 a4 a5 a6 a9 aE aI aJ aK t (clsOf z)=w:=q.2.2.2.2.2.2.2.2.2.symm.trans hw);(try have hv:xlA a1 a2 a3 a4 a5 z=w:=q.2.2.2.2.2.2.2.2.2.symm.trans hw);(try have hm:=abm hk (u9 Uc) hv (adO hk (u9 Uc) Ud hv));(try have w0:=adP hk (u9 Uc) Ud hv);(try have hm:=abd hv (abf Ud hv));(try have w0:=abg Ud hv);(try have hm:=abm hk (u9 Uc) hv (by omega:w<0));(try have hm:=abd hv (by omega:w<0));(try simp only[hv]at*);(try subst hm);(try have p:=aa7 (a8:=a8) (aH:=aH) (t:=t) (z:=z) (w:= -1) (by decide));(try have r:=aba (c:=0) (w:= -1) rfl (by decide));(try have p:=aa8 (a8:=a8) (aH:=aH) (t:=t) (z:=z) (by omega:0<=w));(try have r:=aa9 (c:=0) rfl (by omega:0<=w));(try have zi:=DW i2 i0 Uc (by omega:w<=ag a8 i 1));(try have zi:=yA (j:=1) (x:=w) i2 Uc Uc);(try have e9:bK .add Za aH 1=aH+1:=cu Uc);(try have e6:=N8 (es:=a8) (x:=[[.i aH,.i w,.i z,.i t]]) i0 Uc))
 all_goals first
  | (show(_:List DV)=_
     first
      |(first|(rw[q.1,q.2.1,q.2.2.1,q.2.2.2.1,q.2.2.2.2.1,q.2.2.2.2.2.1,q.2.2.2.2.2.2.1,q.2.2.2.2.2.2.2.1,q.2.2.2.2.2.2.2.2.1,q.2.2.2.2.2.2.2.2.2,cz,p.1,p.2];done)|(rw[q.1,q.2.1,q.2.2.1,q.2.2.2.1,q.2.2.2.2.1,q.2.2.2.2.2.1,q.2.2.2.2.2.2.1,q.2.2.2.2.2.2.2.1,q.2.2.2.2.2.2.2.2.1,q.2.2.2.2.2.2.2.2.2,cz,p.1,p.2];exact rfl))
      |(first|(rw[q.1,q.2.1,q.2.2.1,q.2.2.2.1,q.2.2.2.2.1,q.2.2.2.2.2.1,q.2.2.2.2.2.2.1,q.2.2.2.2.2.2.2.1,q.2.2.2.2.2.2.2.2.1,q.2.2.2.2.2.2.2.2.2,cz,p.1,p.2,r];done)|(rw[q.1,q.2.1,q.2.2.1,q.2.2.2.1,q.2.2.2.2.1,q.2.2.2.2.2.1,q.2.2.2.2.2.2.1,q.2.2.2.2.2.2.2.1,q.2.2.2.2.2.2.2.2.1,q.2.2.2.2.2.2.2.2.2,cz,p.1,p.2,r];exact rfl))
      |(first|(rw[q.1,q.2.1,q.2.2.1,q.2.2.2.1,q.2.2.2.2.1,q.2.2.2.2.2.1,q.2.2.2.2.2.2.1,q.2.2.2.2.2.2.2.1,q.2.2.2.2.2.2.2.2.1,q.2.2.2.2.2.2.2.2.2,cz,p.1,p.2,r, <-zi,e9];done)|(rw[q.1,q.2.1,q.2.2.1,q.2.2.2.1,q.2.2.2.2.1,q.2.2.2.2.2.1,q.2.2.2.2.2.2.1,q.2.2.2.2.2.2.2.1,q.2.2.2.2.2.2.2.2.1,q.2.2.2.2.2.2.2.2.2,cz,p.1,p.2,r, <-zi,e9];exact rfl))
      |done)
  | (show(_:List H)=_
     first
      |done)
  |omega
  |exact ga
  |exact hp
  |exact hp.hp
  |exact⟨h8,Uc⟩
  |exact⟨hp,hk,Uc,ti,u9 Ud,c6,c9⟩
  |exact⟨hp,HH.k,c0,Uc,hz,c7⟩
  |exact SR h8 i0 Uc (by decide)
  |exact bR
  |exact Oi i2 Uc
  |exact⟨i0,Uc,Uc,Rw.scal (fs:=[tI,tI,tI,tI]) h8 rfl,by simp[bN,iS,scal],rfl⟩
  |exact Rw.scal (fs:=[tI,tI,tI,tI]) h8 rfl
  |exact Rw.scal (fs:=[tI,tI,tI,tI]) (Mh h8).1 rfl
  |(have sl:=fun(a b:Nat)=>(Mh (a:=a) (b:=b) h8).2;refine⟨?_,?_⟩<;>(simp only[List.length_nil,List.length_append,List.length_cons];have s1:=sl (Int.toNat 0) (FD i 0);have s2:=sl i.toNat (FD (a8.length:Int) i);omega))
  |(show ay _ _=true;kernel_rfl)
  |exact⟨Zd,Zd⟩
  |exact Zd
  |done
def jn:EC:=fun F=>fun
 |[.agg hl_]=>hL hl_ fun a0 a1 a2 a3 a4 a5 a6 a7 a8 a9 aA aB aC aD aE aF aG aH aI aJ aK aL aM aN=>(fun _=>Qk (HV.mk a0 a1 a2 a3 a4 a5 a6 a7 a8 a9 aA aB aC aD aE aF aG aH aI aJ aK aL aM aN),[.k (F.hOk (HV.mk a0 a1 a2 a3 a4 a5 a6 a7 a8 a9 aA aB aC aD aE aF aG aH aI aJ aK aL aM aN))])
 |_=>none
def tE:ec 12 jn:=by
 intro _ _ _ h hp;dsimp only[jn,F0,hL]at h;split at h;rotate_left;cases h;split at h<;>cases h
 rename_i a0 a1 a2 a3 a4 a5 a6 a7 a8 a9 aA aB aC aD aE aF aG aH aI aJ aK aL aM aN;exact eC _ _ _ rfl (HV.wf_hc hp.w).1.hp
def ij:EC:=fun F=>fun
 |[.one (.v (.int Za p)),.one (.v (.int Za f)),.one (.v (.int Za t)),.one (.v (.int Za l)),.one (.s 1 rs)]=>some (fun _=>Rw [tI] rs/\rs.length<=1099511627776,[hvD (F.hNw p f t l rs),.k (F.hnB p f t l rs)])
 |_=>none
def rA:ec 6 ij:=by
 intro _ _ _ h hp;dsimp only[ij,F0]at h;split at h<;>cases h
 rename_i p f t l rs;exact uF _ _ _ rfl hp
def fW:EC:=fun F=>fun
 |[.agg hl_,.one (.v (.int Za t)),.one (.v (.int Za z))]=>hL hl_ fun a0 a1 a2 a3 a4 a5 a6 a7 a8 a9 aA aB aC aD aE aF aG aH aI aJ aK aL aM aN=>(fun _=>Qk (HV.mk a0 a1 a2 a3 a4 a5 a6 a7 a8 a9 aA aB aC aD aE aF aG aH aI aJ aK aL aM aN)/\Dl t/\Dl z,[hvD (F.hAl (HV.mk a0 a1 a2 a3 a4 a5 a6 a7 a8 a9 aA aB aC aD aE aF aG aH aI aJ aK aL aM aN) t z),.j (F.hAA (HV.mk a0 a1 a2 a3 a4 a5 a6 a7 a8 a9 aA aB aC aD aE aF aG aH aI aJ aK aL aM aN) t z),.j (F.hAR (HV.mk a0 a1 a2 a3 a4 a5 a6 a7 a8 a9 aA aB aC aD aE aF aG aH aI aJ aK aL aM aN) t z)])
 |_=>none
def pk:ec 7 fW:=by
 intro _ _ _ h hp;dsimp only[fW,F0,hL]at h;split at h;rotate_left;cases h;split at h<;>cases h
 rename_i t z _ a0 a1 a2 a3 a4 a5 a6 a7 a8 a9 aA aB aC aD aE aF aG aH aI aJ aK aL aM aN;have C:=HV.wf_hc hp.1.w;exact rz _ _ _ rfl ⟨C.1,ZA C.2.1 (by decide),ZA C.2.2.1 (by decide),ZA C.2.2.2.1 (by decide),C.2.2.2.2.1,hp.2.1,hp.2.2⟩
end Go.V