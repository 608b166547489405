/- Contracts. -/
import Derived.Test.YtpldpilhgjpkjaaGreatM7
set_option linter.all false
open Go
open And renaming intro->Zb
open IntKind renaming i64->Za
open True renaming intro->Zd
namespace Go.V
open Go Go.Proofs
set_option maxRecDepth 1000000
set_option maxHeartbeats 8000000
abbrev Zq0:dB:={
 Φ:=wV
 F0:=F0
 ct:=fun F f=>match f with|144=>dC F|_=>fun _=>none
 hc:=(by
  intro f;dsimp only;split;exact mE;exact dI)
 pt:=fun F f=>match f with|142=>some (fO F)|_=>none
 hp:=(by
  intro f mk h;dsimp only at h;split at h<;>cases h
  exact lA)
 ot:=fun F f=>match f with|145=>some (ap F)|_=>none
 ho:=(by
  intro f mk h;dsimp only at h;split at h<;>cases h
  exact cv)}
def iF:EP:=fun F=>fun
 |[.mp hl_,.one (.v (.int Za z))]=>hM hl_ fun a0 a1 a2 a3 a4 a5 a6 a7 a8 a9 aA aB aC aD aE aF aG aH aI aJ aK aL aM aN=>(fun _=>Al a0 a1 a2 a4 a5 a6 a7 a8 a9 aA aB aD aL/\kerOk a0 a1 a2 a3 a4=true/\0<=a3/\a3<=90000/\Gi z/\bj a7<=1000000000,[(R7 (F.xpC a0 a1 a2 a3 a4 a5 (F.pfN z)) (F.xpU a0 a1 a2 a3 a4 a5 (F.pfN z)) (F.xpE a0 a1 a2 a3 a4 a5 (F.pfN z)) (F.xpK a1 a2 a3 a4 a5 (F.pfN z)) a4 (F.xpF a1 a2 a3 a4 a5 (F.pfN z)) a6 (F.xlL a1 a2 a3 a4 a5 a7 z) a8 a9 aA aB aC aD aE aF aG aH aI aJ aK aL aM aN)],[.j (F.xlA a1 a2 a3 a4 a5 z),.k (F.xpB a1 a2 a3 a4 a5 (F.pfN z))])
 |_=>none
theorem rz:ep 40 iF:=by
 intro _ _ _ _ h hp;dsimp only[iF,F0,hM]at h;split at h;rotate_left;cases h;split at h<;>cases h
 rename_i z _ a0 a1 a2 a3 a4 a5 a6 a7 a8 a9 aA aB aC aD aE aF aG aH aI aJ aK aL aM aN;obtain⟨hp,hk,c0,c1,⟨z0,z1⟩,c7⟩:=hp;have l7:=av (es:=a7);have h7:=hp.r7;refine pb Zq0 Tryz.func40 ?_
 intro O r os F hO hr hos hF;cbv
 repeat' first|apply Zb|(apply b8<;>intro hb<;>cbv)|(refine⟨[0,1,6,8],[0],Int,fun i=>[.reg 8 (.j i)],fun i=>0<=i/\i<=((a7.length:Nat):Int)/\upto (bR (FD a7 0 (xpA a1 a2 a3 a4 a5 (pfN z)))) i,fun i=>(a7.length)-i.toNat,⟨0,?_,?_⟩,?_⟩;rotate_left;(focus (cbv;done));intro i hi;replace hi:0<=i/\i<=((a7.length:Nat):Int)/\upto (bR (FD a7 0 (xpA a1 a2 a3 a4 a5 (pfN z)))) i:=hi;obtain⟨i0,i1,i2⟩:=hi;cbv)|(refine ah (O.ar .add Za i 1) ?_ ?_ ?_;focus (cbv;done))
 all_goals((try subst hos);subst hO hr hF;(try simp only[nc]at*);(try simp only[am,SS,sa,az]at*);(try rw[cJ (by omega) (by omega)]);(try simp only[lH (l:=a7) (sz:=3) (j:=0) i0]at*);(try have xb:xpB a1 a2 a3 a4 a5 (pfN z)=true:=(by assumption));(try have pg:=Jo xb);(try have e1:bK .mul Za (xpA a1 a2 a3 a4 a5 (pfN z)) 16=xpA a1 a2 a3 a4 a5 (pfN z)*16:=CL (by omega));(try have zi:=Ec i2 i0 (by omega) (by omega:xpA a1 a2 a3 a4 a5 (pfN z)<=ag a7 i 0));(try have zi:=yX i2 (by omega) (by omega));(try have y:=aeg (a7:=a7) xb);(try have y:=abA (a7:=a7) (by assumption:xpB a1 a2 a3 a4 a5 (pfN z)=false)))
 all_goals first
  | (show(_:List DV)=_
     first
      |(first|(rw[y.2,xb,e1];done)|(rw[y.2,xb,e1];exact rfl))
      |(first|(rw[y.2,(by assumption:xpB a1 a2 a3 a4 a5 (pfN z)=false)];done)|(rw[y.2,(by assumption:xpB a1 a2 a3 a4 a5 (pfN z)=false)];exact rfl))
      |done)
  | (show(_:List H)=_
     first
      |(first|(rw[y.1];done)|(rw[y.1];exact rfl))
      |(first|(rw[y.1, <-zi];done)|(rw[y.1, <-zi];exact rfl))
      |done)
  |omega
  |exact fg
  |exact⟨hp,hk,c0,c1,adt z0 z1⟩
  |exact bD
  |exact OP i2 (by omega)
  |exact HR h7 i0 (by omega) (by decide)
  |exact⟨i0,by omega,by omega,Rw.scal (fs:=[tI,tI,tI]) h7 rfl,by simp[bM,iR,scal],rfl⟩
  |(show aw _ _=true;kernel_rfl)
  |exact⟨Zd,Zd⟩
  |exact Zd
  |done
abbrev Zq2:dB:={
 Φ:=wV
 F0:=F0
 ct:=fun F f=>match f with|36=>dD F|17=>cV F|33=>ai F|37=>iC F|38=>cM F|92=>ai F|42=>cM F|_=>fun _=>none
 hc:=(by
  intro f;dsimp only;split;exact mI;exact kL;exact aP;exact rl;exact jD;exact bc;exact jG;exact dI)
 pt:=fun F f=>match f with|39=>some (iG F)|40=>some (iF F)|_=>none
 hp:=(by
  intro f mk h;dsimp only at h;split at h<;>cases h
  exact rA;exact rz)
 ot:=fun F f=>match f with|41=>some (bu F)|_=>none
 ho:=(by
  intro f mk h;dsimp only at h;split at h<;>cases h
  exact cI)}
def iw:EC:=fun F=>fun
 |[.agg hl_,.one (.v (.int Za t)),.one (.v (.int Za z))]=>hL hl_ fun a0 a1 a2 a3 a4 a5 a6 a7 a8 a9 aA aB aC aD aE aF aG aH aI aJ aK aL aM aN=>(fun _=>Al a0 a1 a2 a4 a5 a6 a7 a8 a9 aA aB aD aL/\bj a6<=1000000000/\bj a7<=1000000000/\bj a8<=1000000000/\bj a9<=300000000/\Gi t/\Gi z,[.agg (QG (F.xaC (F.xaO (F.hpI a0 a1 a2 a3 a4 a5 a6 a7 a8 a9 aA aB aC aD aE aF aG aH aI aJ aK aL aM aN) a3 a8 a9 aG aH t z) a0 a1 a2 a3 a4 a5 a6 a7 a9 aE aI aJ aK t z) (F.xaU (F.xaO (F.hpI a0 a1 a2 a3 a4 a5 a6 a7 a8 a9 aA aB aC aD aE aF aG aH aI aJ aK aL aM aN) a3 a8 a9 aG aH t z) a0 a1 a2 a3 a4 a5 a6 a7 a9 aE aI aJ aK t z) (F.xaE (F.xaO (F.hpI a0 a1 a2 a3 a4 a5 a6 a7 a8 a9 aA aB aC aD aE aF aG aH aI aJ aK aL aM aN) a3 a8 a9 aG aH t z) a0 a1 a2 a3 a4 a5 a6 a7 a9 aE aI aJ aK t z) (F.xaK (F.xaO (F.hpI a0 a1 a2 a3 a4 a5 a6 a7 a8 a9 aA aB aC aD aE aF aG aH aI aJ aK aL aM aN) a3 a8 a9 aG aH t z) a0 a1 a2 a3 a4 a5 a6 a7 a9 aE aI aJ aK t z) a4 (F.xaF (F.xaO (F.hpI a0 a1 a2 a3 a4 a5 a6 a7 a8 a9 aA aB aC aD aE aF aG aH aI aJ aK aL aM aN) a3 a8 a9 aG aH t z) a0 a1 a2 a3 a4 a5 a6 a7 a9 aE aI aJ aK t z) (F.xaS (F.xaO (F.hpI a0 a1 a2 a3 a4 a5 a6 a7 a8 a9 aA aB aC aD aE aF aG aH aI aJ aK aL aM aN) a3 a8 a9 aG aH t z) a0 a1 a2 a3 a4 a5 a6 a7 a9 aE aI aJ aK t z) (F.xaL (F.xaO (F.hpI a0 a1 a2 a3 a4 a5 a6 a7 a8 a9 aA aB aC aD aE aF aG aH aI aJ aK aL aM aN) a3 a8 a9 aG aH t z) a0 a1 a2 a3 a4 a5 a6 a7 a9 aE aI aJ aK t z) (F.xaP a8 aH t z (F.xaA (F.xaO (F.hpI a0 a1 a2 a3 a4 a5 a6 a7 a8 a9 aA aB aC aD aE aF aG aH aI aJ aK aL aM aN) a3 a8 a9 aG aH t z) a0 a1 a2 a3 a4 a5 a6 a7 a9 aE aI aJ aK t z)) (F.xaX (F.xaO (F.hpI a0 a1 a2 a3 a4 a5 a6 a7 a8 a9 aA aB aC aD aE aF aG aH aI aJ aK aL aM aN) a3 a8 a9 aG aH t z) a0 a1 a2 a3 a4 a5 a6 a7 a9 aE aI aJ aK t z) aA aB aC aD (F.xaD (F.xaO (F.hpI a0 a1 a2 a3 a4 a5 a6 a7 a8 a9 aA aB aC aD aE aF aG aH aI aJ aK aL aM aN) a3 a8 a9 aG aH t z) a0 a1 a2 a3 a4 a5 a6 a7 a9 aE aI aJ aK t z) aF aG (F.xaN aH (F.xaA (F.xaO (F.hpI a0 a1 a2 a3 a4 a5 a6 a7 a8 a9 aA aB aC aD aE aF aG aH aI aJ aK aL aM aN) a3 a8 a9 aG aH t z) a0 a1 a2 a3 a4 a5 a6 a7 a9 aE aI aJ aK t z)) aI aJ aK aL aM aN),.j (F.xaA (F.xaO (F.hpI a0 a1 a2 a3 a4 a5 a6 a7 a8 a9 aA aB aC aD aE aF aG aH aI aJ aK aL aM aN) a3 a8 a9 aG aH t z) a0 a1 a2 a3 a4 a5 a6 a7 a9 aE aI aJ aK t z),.j (F.xaR (F.xaG (F.hpI a0 a1 a2 a3 a4 a5 a6 a7 a8 a9 aA aB aC aD aE aF aG aH aI aJ aK aL aM aN) a3 a8 a9 aG aH t z) (F.xaA (F.xaO (F.hpI a0 a1 a2 a3 a4 a5 a6 a7 a8 a9 aA aB aC aD aE aF aG aH aI aJ aK aL aM aN) a3 a8 a9 aG aH t z) a0 a1 a2 a3 a4 a5 a6 a7 a9 aE aI aJ aK t z))])
 |_=>none
theorem ra:ec 11 iw:=by
 intro _ _ _ h hp;dsimp only[iw,F0,hL]at h;split at h;rotate_left;cases h;split at h<;>cases h
 rename_i t z _ a0 a1 a2 a3 a4 a5 a6 a7 a8 a9 aA aB aC aD aE aF aG aH aI aJ aK aL aM aN;obtain⟨hp,c6,c7,c8,c9,ht,hz⟩:=hp;have l8:=av (es:=a8);have l9:=av (es:=a9);have h8:=hp.r8;have c8':=hp.c8;have c9':=hp.c9;have e0:bK .sub Za (a9.length:Int) 1=a9.length-1:=fG (by omega);obtain⟨w,hw⟩:∃ w,xaA (xaO (hpI a0 a1 a2 a3 a4 a5 a6 a7 a8 a9 aA aB aC aD aE aF aG aH aI aJ aK aL aM aN) a3 a8 a9 aG aH t z) a0 a1 a2 a3 a4 a5 a6 a7 a9 aE aI aJ aK t z=w:=⟨_,rfl⟩;refine cb Zq2 Tryz.func11 ?_
 intro O r F hO hr hF;cbv
 repeat' first|apply Zb|(apply b8<;>intro hb<;>cbv)|(refine⟨[1,2,3,6,9,10,13],[3,6,9],Int,fun i=>[.reg 13 (.j i)],fun i=>0<=i/\i<=((a8.length:Nat):Int)/\upto (bR (FD a8 1 w)) i,fun i=>(a8.length)-i.toNat,⟨0,?_,?_⟩,?_⟩;rotate_left;(focus (cbv;done));intro i hi;replace hi:0<=i/\i<=((a8.length:Nat):Int)/\upto (bR (FD a8 1 w)) i:=hi;obtain⟨i0,i1,i2⟩:=hi;cbv)|(refine ah (O.ar .add Za i 1) ?_ ?_ ?_;focus (cbv;done))
 all_goals(subst hO hr hF;(try simp only[nc]at*);(try simp only[am,SS,sa,az]at*);(try simp only[e0]at*);(try rw[cJ (by omega) (by omega)]);(try simp only[lH (l:=a8) (sz:=4) (j:=1) i0]at*);(try have hk:hpI a0 a1 a2 a3 a4 a5 a6 a7 a8 a9 aA aB aC aD aE aF aG aH aI aJ aK aL aM aN=true:=(by assumption));(try have HH:=DW hk);(try have hx:=bz.1 HH.x);(try have c0:=(qq HH.k).2.1);(try have ti:inR t 0 (a9.length-1)=true:=(by assumption));(try have zi':inR z 1 1000=true:=(by assumption));(try have cz:=Jm (h:=hpI a0 a1 a2 a3 a4 a5 a6 a7 a8 a9 aA aB aC aD aE aF aG aH aI aJ aK aL aM aN) (a3:=a3) (a8:=a8) (a9:=a9) (aG:=aG) (aH:=aH) (t:=t) (z:=z) (.inl (by assumption)));(try have cz:=Jm (h:=hpI a0 a1 a2 a3 a4 a5 a6 a7 a8 a9 aA aB aC aD aE aF aG aH aI aJ aK aL aM aN) (a3:=a3) (a8:=a8) (a9:=a9) (aG:=aG) (aH:=aH) (t:=t) (z:=z) (.inr (.inl (by omega:aH=1000000))));(try have cz:=Jm (h:=hpI a0 a1 a2 a3 a4 a5 a6 a7 a8 a9 aA aB aC aD aE aF aG aH aI aJ aK aL aM aN) (a3:=a3) (a8:=a8) (a9:=a9) (aG:=aG) (aH:=aH) (t:=t) (z:=z) (.inr (.inr (by omega:90000<a3))));(try have cz:=abn (a8:=a8) (aG:=aG) (z:=z) hk (by omega:aH≠1000000) (by omega) (by assumption:inR t 0 (a9.length-1)=false));(try have cz:=abo (a8:=a8) (aG:=aG) hk (by omega:aH≠1000000) (by omega) ti (by assumption:inR z 1 1000=false));(try have cz:=abp hk (by omega:aH≠1000000) (by omega) ti zi' (by omega:aG<bK .add Za (lsI a8) z));(try have cz:=abq hk (by omega:aH≠1000000) (by omega) ti zi' (by omega:bK .add Za (lsI a8) z<=aG));(try have q:=aed (a0:=a0) (a1:=a1) (a2:=a2) (a3:=a3) (a4:=a4) (a5:=a5) (a6:=a6) (a7:=a7) (a9:=a9) (aE:=aE) (aI:=aI) (aJ:=aJ) (aK:=aK) (t:=t) (z:=z) (abr cz (by decide)));(try have hm:w= -1:=hw.symm.trans q.2.2.2.2.2.2.2.2.2);(try have q:=aee (a0:=a0) (a1:=a1) (a2:=a2) (a3:=a3) (a4:=a4) (a5:=a5) (a6:=a6) (a7:=a7) (a9:=a9) (aE:=aE) (aI:=aI) (aJ:=aJ) (aK:=aK) (t:=t) (Na cz) (by omega:0<=clsOf z));(try have q:=aec (a0:=a0) (a1:=a1) (a2:=a2) (a3:=a3) (a4:=a4) (a5:=a5) (a6:=a6) (a7:=a7) (a9:=a9) (aE:=aE) (aI:=aI) (aJ:=aJ) (aK:=aK) (t:=t) (Na cz) (by omega:clsOf z<0));(try have hv:xmA a0 a1 a2 a3 a4 a5 a6 a9 aE aI aJ aK t (clsOf z)=w:=q.2.2.2.2.2.2.2.2.2.symm.trans hw);(try have hv:xlA a1 a2 a3 a4 a5 z=w:=q.2.2.2.2.2.2.2.2.2.symm.trans hw);(try have hm:=abI hk (vu (by omega)) hv (aeh hk (vu (by omega)) (by assumption) hv));(try have w0:=aei hk (vu (by omega)) (by assumption) hv);(try have hm:=abz hv (abB (by assumption) hv));(try have w0:=abC (by assumption) hv);(try have hm:=abI hk (vu (by omega)) hv (by omega:w<0));(try have hm:=abz hv (by omega:w<0));(try simp only[hv]at*);(try subst hm);(try have p:=abt (a8:=a8) (aH:=aH) (t:=t) (z:=z) (w:= -1) (by decide));(try have r:=abw (c:=0) (w:= -1) rfl (by decide));(try have p:=abu (a8:=a8) (aH:=aH) (t:=t) (z:=z) (by omega:0<=w));(try have r:=abv (c:=0) rfl (by omega:0<=w));(try have zi:=Ec i2 i0 (by omega) (by omega:w<=ag a8 i 1));(try have zi:=yX (j:=1) (x:=w) i2 (by omega) (by omega));(try have e9:bK .add Za aH 1=aH+1:=bT (by omega));(try have e6:=aeD (es:=a8) (x:=[[.i aH,.i w,.i z,.i t]]) i0 (by omega)))
 all_goals first
  | (show(_:List DV)=_
     first
      |(first|(rw[q.1,q.2.1,q.2.2.1,q.2.2.2.1,q.2.2.2.2.1,q.2.2.2.2.2.1,q.2.2.2.2.2.2.1,q.2.2.2.2.2.2.2.1,q.2.2.2.2.2.2.2.2.1,q.2.2.2.2.2.2.2.2.2,cz,p.1,p.2];done)|(rw[q.1,q.2.1,q.2.2.1,q.2.2.2.1,q.2.2.2.2.1,q.2.2.2.2.2.1,q.2.2.2.2.2.2.1,q.2.2.2.2.2.2.2.1,q.2.2.2.2.2.2.2.2.1,q.2.2.2.2.2.2.2.2.2,cz,p.1,p.2];exact rfl))
      |(first|(rw[q.1,q.2.1,q.2.2.1,q.2.2.2.1,q.2.2.2.2.1,q.2.2.2.2.2.1,q.2.2.2.2.2.2.1,q.2.2.2.2.2.2.2.1,q.2.2.2.2.2.2.2.2.1,q.2.2.2.2.2.2.2.2.2,cz,p.1,p.2,r];done)|(rw[q.1,q.2.1,q.2.2.1,q.2.2.2.1,q.2.2.2.2.1,q.2.2.2.2.2.1,q.2.2.2.2.2.2.1,q.2.2.2.2.2.2.2.1,q.2.2.2.2.2.2.2.2.1,q.2.2.2.2.2.2.2.2.2,cz,p.1,p.2,r];exact rfl))
      |(first|(rw[q.1,q.2.1,q.2.2.1,q.2.2.2.1,q.2.2.2.2.1,q.2.2.2.2.2.1,q.2.2.2.2.2.2.1,q.2.2.2.2.2.2.2.1,q.2.2.2.2.2.2.2.2.1,q.2.2.2.2.2.2.2.2.2,cz,p.1,p.2,r, <-zi,e9];done)|(rw[q.1,q.2.1,q.2.2.1,q.2.2.2.1,q.2.2.2.2.1,q.2.2.2.2.2.1,q.2.2.2.2.2.2.1,q.2.2.2.2.2.2.2.1,q.2.2.2.2.2.2.2.2.1,q.2.2.2.2.2.2.2.2.2,cz,p.1,p.2,r, <-zi,e9];exact rfl))
      |done)
  | (show(_:List H)=_
     first
      |done)
  |omega
  |exact fg
  |exact hp
  |exact hp.hp
  |exact⟨h8,by omega⟩
  |exact⟨hp,hk,by omega,ti,vu (by assumption),c6,c9⟩
  |exact⟨hp,HH.k,c0,by omega,hz,c7⟩
  |exact S9 h8 i0 (by omega) (by decide)
  |exact bD
  |exact OP i2 (by omega)
  |exact⟨i0,by omega,by omega,Rw.scal (fs:=[tI,tI,tI,tI]) h8 rfl,by simp[bM,iR,scal],rfl⟩
  |exact Rw.scal (fs:=[tI,tI,tI,tI]) h8 rfl
  |exact Rw.scal (fs:=[tI,tI,tI,tI]) (M4 h8).1 rfl
  |(have sl:=fun(a b:Nat)=>(M4 (a:=a) (b:=b) h8).2;refine⟨?_,?_⟩<;>(simp only[List.length_nil,List.length_append,List.length_cons];have s1:=sl (Int.toNat 0) (Gb i 0);have s2:=sl i.toNat (Gb (a8.length:Int) i);omega))
  |(show aw _ _=true;kernel_rfl)
  |exact⟨Zd,Zd⟩
  |exact Zd
  |done
end Go.V