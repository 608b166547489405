/- Contracts. -/
import Derived.Test.YtpldpilhgjpkjaaGreatYM7
set_option linter.all false
open Go
open And renaming intro->Zd
open IntKind renaming i64->Za
open True renaming intro->Zb
namespace Go.V
open Go Go.Proofs
set_option maxRecDepth 1000000
set_option maxHeartbeats 8000000
abbrev Zq0:dr:={
 Φ:=t8
 F0:=F0
 ct:=fun F f=>match f with|144=>gh F|_=>fun _=>none
 hc:=(by
  intro f;dsimp only;split;exact nh;exact dD)
 pt:=fun F f=>match f with|142=>some (fF F)|_=>none
 hp:=(by
  intro f mk h;dsimp only at h;split at h<;>cases h
  exact lR)
 ot:=fun F f=>match f with|145=>some (ak F)|_=>none
 ho:=(by
  intro f mk h;dsimp only at h;split at h<;>cases h
  exact cA)}
def iL:EP:=fun F=>fun
 |[.mp hl_,.one (.v (.int Za z))]=>hM hl_ fun a0 a1 a2 a3 a4 a5 a6 a7 a8 a9 aA aB aC aD aE aF aG aH aI aJ aK aL aM aN=>(fun _=>mZ a0 a1 a2 a4 a5 a6 a7 a8 a9 aA aB aD aL/\kerOk a0 a1 a2 a3 a4=true/\0<=a3/\a3<=90000/\Ak z/\av a7<=1000000000,[(Kl (F.xpC a0 a1 a2 a3 a4 a5 (F.pfN z)) (F.xpU a0 a1 a2 a3 a4 a5 (F.pfN z)) (F.xpE a0 a1 a2 a3 a4 a5 (F.pfN z)) (F.xpK a1 a2 a3 a4 a5 (F.pfN z)) a4 (F.xpF a1 a2 a3 a4 a5 (F.pfN z)) a6 (F.xlL a1 a2 a3 a4 a5 a7 z) a8 a9 aA aB aC aD aE aF aG aH aI aJ aK aL aM aN)],[.j (F.xlA a1 a2 a3 a4 a5 z),.k (F.xpB a1 a2 a3 a4 a5 (F.pfN z))])
 |_=>none
theorem rI:ep 40 iL:=by
 intro _ _ _ _ h hp;dsimp only[iL,F0,hM]at h;split at h;rotate_left;cases h;split at h<;>cases h
 rename_i z _ a0 a1 a2 a3 a4 a5 a6 a7 a8 a9 aA aB aC aD aE aF aG aH aI aJ aK aL aM aN;obtain⟨hp,hk,c0,c1,⟨z0,z1⟩,c7⟩:=hp;have l7:=aS (es:=a7);have h7:=hp.r7;refine pb Zq0 Tryz.func40 ?_
 intro O r os F hO hr hos hF;cbv
 repeat' first|apply Zd|(apply cS<;>intro hb<;>cbv)|(refine⟨[0,1,6,8],[0],Int,fun i=>[.reg 8 (.j i)],fun i=>0<=i/\i<=((a7.length:Nat):Int)/\upto (cK (Fz a7 0 (xpA a1 a2 a3 a4 a5 (pfN z)))) i,fun i=>(a7.length)-i.toNat,⟨0,?_,?_⟩,?_⟩;rotate_left;(focus (cbv;done));intro i hi;replace hi:0<=i/\i<=((a7.length:Nat):Int)/\upto (cK (Fz a7 0 (xpA a1 a2 a3 a4 a5 (pfN z)))) i:=hi;obtain⟨i0,i1,i2⟩:=hi;cbv)|(refine ah (O.ar .add Za i 1) ?_ ?_ ?_;focus (cbv;done))
 all_goals((try subst hos);subst hO hr hF;(try simp only[nc]at*);(try simp only[am,SS,sa,az]at*);(try rw[dq (by omega) (by omega)]);(try simp only[hZ (l:=a7) (sz:=3) (j:=0) i0]at*);(try have xb:xpB a1 a2 a3 a4 a5 (pfN z)=true:=(by assumption));(try have pg:=Jd xb);(try have e1:bO .mul Za (xpA a1 a2 a3 a4 a5 (pfN z)) 16=xpA a1 a2 a3 a4 a5 (pfN z)*16:=vL (by omega));(try have zi:=Et i2 i0 (by omega) (by omega:xpA a1 a2 a3 a4 a5 (pfN z)<=ag a7 i 0));(try have zi:=yS i2 (by omega) (by omega));(try have y:=aeT (a7:=a7) xb);(try have y:=ab9 (a7:=a7) (by assumption:xpB a1 a2 a3 a4 a5 (pfN z)=false)))
 all_goals first
  | (show(_:List DV)=_
     first
      |(first|(rw[y.2,xb,e1];done)|(rw[y.2,xb,e1];exact rfl))
      |(first|(rw[y.2,(by assumption:xpB a1 a2 a3 a4 a5 (pfN z)=false)];done)|(rw[y.2,(by assumption:xpB a1 a2 a3 a4 a5 (pfN z)=false)];exact rfl))
      |done)
  | (show(_:List H)=_
     first
      |(first|(rw[y.1];done)|(rw[y.1];exact rfl))
      |(first|(rw[y.1, <-zi];done)|(rw[y.1, <-zi];exact rfl))
      |done)
  |omega
  |exact fQ
  |exact⟨hp,hk,c0,c1,aem z0 z1⟩
  |exact bV
  |exact Pi i2 (by omega)
  |exact sX h7 i0 (by omega) (by decide)
  |exact⟨i0,by omega,by omega,Rw.scal (fs:=[tI,tI,tI]) h7 rfl,by simp[bF,eC,scal],rfl⟩
  |(show aw _ _=true;kernel_rfl)
  |exact⟨Zb,Zb⟩
  |exact Zb
  |done
abbrev Zq2:dr:={
 Φ:=t8
 F0:=F0
 ct:=fun F f=>match f with|36=>gp F|17=>iX F|33=>ax F|37=>iF F|38=>d5 F|_=>fun _=>none
 hc:=(by
  intro f;dsimp only;split;exact nk;exact lh;exact aT;exact rC;exact gM;exact dD)
 pt:=fun F f=>match f with|39=>some (iM F)|40=>some (iL F)|_=>none
 hp:=(by
  intro f mk h;dsimp only at h;split at h<;>cases h
  exact rJ;exact rI)
 ot:=fun F f=>match f with|41=>some (bB F)|_=>none
 ho:=(by
  intro f mk h;dsimp only at h;split at h<;>cases h
  exact cI)}
def lU:EC:=fun F=>fun
 |[.agg hl_,.one (.v (.int Za t)),.one (.v (.int Za z))]=>hL hl_ fun a0 a1 a2 a3 a4 a5 a6 a7 a8 a9 aA aB aC aD aE aF aG aH aI aJ aK aL aM aN=>(fun _=>mZ a0 a1 a2 a4 a5 a6 a7 a8 a9 aA aB aD aL/\av a6<=1000000000/\av a7<=1000000000/\av a8<=1000000000/\av a9<=300000000/\Ak t/\Ak z,[.agg (OR (F.xaC (F.xaO (F.hpI a0 a1 a2 a3 a4 a5 a6 a7 a8 a9 aA aB aC aD aE aF aG aH aI aJ aK aL aM aN) a3 a8 a9 aG aH t z) a0 a1 a2 a3 a4 a5 a6 a7 a9 aE aI aJ aK t z) (F.xaU (F.xaO (F.hpI a0 a1 a2 a3 a4 a5 a6 a7 a8 a9 aA aB aC aD aE aF aG aH aI aJ aK aL aM aN) a3 a8 a9 aG aH t z) a0 a1 a2 a3 a4 a5 a6 a7 a9 aE aI aJ aK t z) (F.xaE (F.xaO (F.hpI a0 a1 a2 a3 a4 a5 a6 a7 a8 a9 aA aB aC aD aE aF aG aH aI aJ aK aL aM aN) a3 a8 a9 aG aH t z) a0 a1 a2 a3 a4 a5 a6 a7 a9 aE aI aJ aK t z) (F.xaK (F.xaO (F.hpI a0 a1 a2 a3 a4 a5 a6 a7 a8 a9 aA aB aC aD aE aF aG aH aI aJ aK aL aM aN) a3 a8 a9 aG aH t z) a0 a1 a2 a3 a4 a5 a6 a7 a9 aE aI aJ aK t z) a4 (F.xaF (F.xaO (F.hpI a0 a1 a2 a3 a4 a5 a6 a7 a8 a9 aA aB aC aD aE aF aG aH aI aJ aK aL aM aN) a3 a8 a9 aG aH t z) a0 a1 a2 a3 a4 a5 a6 a7 a9 aE aI aJ aK t z) (F.xaS (F.xaO (F.hpI a0 a1 a2 a3 a4 a5 a6 a7 a8 a9 aA aB aC aD aE aF aG aH aI aJ aK aL aM aN) a3 a8 a9 aG aH t z) a0 a1 a2 a3 a4 a5 a6 a7 a9 aE aI aJ aK t z) (F.xaL (F.xaO (F.hpI a0 a1 a2 a3 a4 a5 a6 a7 a8 a9 aA aB aC aD aE aF aG aH aI aJ aK aL aM aN) a3 a8 a9 aG aH t z) a0 a1 a2 a3 a4 a5 a6 a7 a9 aE aI aJ aK t z) (F.xaP a8 aH t z (F.xaA (F.xaO (F.hpI a0 a1 a2 a3 a4 a5 a6 a7 a8 a9 aA aB aC aD aE aF aG aH aI aJ aK aL aM aN) a3 a8 a9 aG aH t z) a0 a1 a2 a3 a4 a5 a6 a7 a9 aE aI aJ aK t z)) (F.xaX (F.xaO (F.hpI a0 a1 a2 a3 a4 a5 a6 a7 a8 a9 aA aB aC aD aE aF aG aH aI aJ aK aL aM aN) a3 a8 a9 aG aH t z) a0 a1 a2 a3 a4 a5 a6 a7 a9 aE aI aJ aK t z) aA aB aC aD (F.xaD (F.xaO (F.hpI a0 a1 a2 a3 a4 a5 a6 a7 a8 a9 aA aB aC aD aE aF aG aH aI aJ aK aL aM aN) a3 a8 a9 aG aH t z) a0 a1 a2 a3 a4 a5 a6 a7 a9 aE aI aJ aK t z) aF aG (F.xaN aH (F.xaA (F.xaO (F.hpI a0 a1 a2 a3 a4 a5 a6 a7 a8 a9 aA aB aC aD aE aF aG aH aI aJ aK aL aM aN) a3 a8 a9 aG aH t z) a0 a1 a2 a3 a4 a5 a6 a7 a9 aE aI aJ aK t z)) aI aJ aK aL aM aN),.j (F.xaA (F.xaO (F.hpI a0 a1 a2 a3 a4 a5 a6 a7 a8 a9 aA aB aC aD aE aF aG aH aI aJ aK aL aM aN) a3 a8 a9 aG aH t z) a0 a1 a2 a3 a4 a5 a6 a7 a9 aE aI aJ aK t z),.j (F.xaR (F.xaG (F.hpI a0 a1 a2 a3 a4 a5 a6 a7 a8 a9 aA aB aC aD aE aF aG aH aI aJ aK aL aM aN) a3 a8 a9 aG aH t z) (F.xaA (F.xaO (F.hpI a0 a1 a2 a3 a4 a5 a6 a7 a8 a9 aA aB aC aD aE aF aG aH aI aJ aK aL aM aN) a3 a8 a9 aG aH t z) a0 a1 a2 a3 a4 a5 a6 a7 a9 aE aI aJ aK t z))])
 |_=>none
theorem rt:ec 11 lU:=by
 intro _ _ _ h hp;dsimp only[lU,F0,hL]at h;split at h;rotate_left;cases h;split at h<;>cases h
 rename_i t z _ a0 a1 a2 a3 a4 a5 a6 a7 a8 a9 aA aB aC aD aE aF aG aH aI aJ aK aL aM aN;obtain⟨hp,c6,c7,c8,c9,ht,hz⟩:=hp;have l8:=aS (es:=a8);have l9:=aS (es:=a9);have h8:=hp.r8;have c8':=hp.c8;have c9':=hp.c9;have e0:bO .sub Za (a9.length:Int) 1=a9.length-1:=f9 (by omega);obtain⟨w,hw⟩:∃ w,xaA (xaO (hpI a0 a1 a2 a3 a4 a5 a6 a7 a8 a9 aA aB aC aD aE aF aG aH aI aJ aK aL aM aN) a3 a8 a9 aG aH t z) a0 a1 a2 a3 a4 a5 a6 a7 a9 aE aI aJ aK t z=w:=⟨_,rfl⟩;refine cb Zq2 Tryz.func11 ?_
 intro O r F hO hr hF;cbv
 repeat' first|apply Zd|(apply cS<;>intro hb<;>cbv)|(refine⟨[1,2,3,6,9,10,13],[3,6,9],Int,fun i=>[.reg 13 (.j i)],fun i=>0<=i/\i<=((a8.length:Nat):Int)/\upto (cK (Fz a8 1 w)) i,fun i=>(a8.length)-i.toNat,⟨0,?_,?_⟩,?_⟩;rotate_left;(focus (cbv;done));intro i hi;replace hi:0<=i/\i<=((a8.length:Nat):Int)/\upto (cK (Fz a8 1 w)) i:=hi;obtain⟨i0,i1,i2⟩:=hi;cbv)|(refine ah (O.ar .add Za i 1) ?_ ?_ ?_;focus (cbv;done))
 all_goals(subst hO hr hF;(try simp only[nc]at*);(try simp only[am,SS,sa,az]at*);(try simp only[e0]at*);(try rw[dq (by omega) (by omega)]);(try simp only[hZ (l:=a8) (sz:=4) (j:=1) i0]at*);(try have hk:hpI a0 a1 a2 a3 a4 a5 a6 a7 a8 a9 aA aB aC aD aE aF aG aH aI aJ aK aL aM aN=true:=(by assumption));(try have HH:=je hk);(try have hx:=bi.1 HH.x);(try have c0:=(jP HH.k).2.1);(try have ti:inR t 0 (a9.length-1)=true:=(by assumption));(try have zi':inR z 1 1000=true:=(by assumption));(try have cz:=Jb (h:=hpI a0 a1 a2 a3 a4 a5 a6 a7 a8 a9 aA aB aC aD aE aF aG aH aI aJ aK aL aM aN) (a3:=a3) (a8:=a8) (a9:=a9) (aG:=aG) (aH:=aH) (t:=t) (z:=z) (.inl (by assumption)));(try have cz:=Jb (h:=hpI a0 a1 a2 a3 a4 a5 a6 a7 a8 a9 aA aB aC aD aE aF aG aH aI aJ aK aL aM aN) (a3:=a3) (a8:=a8) (a9:=a9) (aG:=aG) (aH:=aH) (t:=t) (z:=z) (.inr (.inl (by omega:aH=1000000))));(try have cz:=Jb (h:=hpI a0 a1 a2 a3 a4 a5 a6 a7 a8 a9 aA aB aC aD aE aF aG aH aI aJ aK aL aM aN) (a3:=a3) (a8:=a8) (a9:=a9) (aG:=aG) (aH:=aH) (t:=t) (z:=z) (.inr (.inr (by omega:90000<a3))));(try have cz:=abX (a8:=a8) (aG:=aG) (z:=z) hk (by omega:aH≠1000000) (by omega) (by assumption:inR t 0 (a9.length-1)=false));(try have cz:=abY (a8:=a8) (aG:=aG) hk (by omega:aH≠1000000) (by omega) ti (by assumption:inR z 1 1000=false));(try have cz:=abZ hk (by omega:aH≠1000000) (by omega) ti zi' (by omega:aG<bO .add Za (lsI a8) z));(try have cz:=ab0 hk (by omega:aH≠1000000) (by omega) ti zi' (by omega:bO .add Za (lsI a8) z<=aG));(try have q:=aeQ (a0:=a0) (a1:=a1) (a2:=a2) (a3:=a3) (a4:=a4) (a5:=a5) (a6:=a6) (a7:=a7) (a9:=a9) (aE:=aE) (aI:=aI) (aJ:=aJ) (aK:=aK) (t:=t) (z:=z) (ab1 cz (by decide)));(try have hm:w= -1:=hw.symm.trans q.2.2.2.2.2.2.2.2.2);(try have q:=aeR (a0:=a0) (a1:=a1) (a2:=a2) (a3:=a3) (a4:=a4) (a5:=a5) (a6:=a6) (a7:=a7) (a9:=a9) (aE:=aE) (aI:=aI) (aJ:=aJ) (aK:=aK) (t:=t) (Ni cz) (by omega:0<=clsOf z));(try have q:=aeP (a0:=a0) (a1:=a1) (a2:=a2) (a3:=a3) (a4:=a4) (a5:=a5) (a6:=a6) (a7:=a7) (a9:=a9) (aE:=aE) (aI:=aI) (aJ:=aJ) (aK:=aK) (t:=t) (Ni cz) (by omega:clsOf z<0));(try have hv:xmA a0 a1 a2 a3 a4 a5 a6 a9 aE aI aJ aK t (clsOf z)=w:=q.2.2.2.2.2.2.2.2.2.symm.trans hw);(try have hv:xlA a1 a2 a3 a4 a5 z=w:=q.2.2.2.2.2.2.2.2.2.symm.trans hw);(try have hm:=aci hk (ve (by omega)) hv (aeU hk (ve (by omega)) (by assumption) hv));(try have w0:=aeV hk (ve (by omega)) (by assumption) hv);(try have hm:=ab8 hv (aca (by assumption) hv));(try have w0:=acb (by assumption) hv);(try have hm:=aci hk (ve (by omega)) hv (by omega:w<0));(try have hm:=ab8 hv (by omega:w<0));(try simp only[hv]at*);(try subst hm);(try have p:=ab2 (a8:=a8) (aH:=aH) (t:=t) (z:=z) (w:= -1) (by decide));(try have r:=ab5 (c:=0) (w:= -1) rfl (by decide));(try have p:=ab3 (a8:=a8) (aH:=aH) (t:=t) (z:=z) (by omega:0<=w));(try have r:=ab4 (c:=0) rfl (by omega:0<=w));(try have zi:=Et i2 i0 (by omega) (by omega:w<=ag a8 i 1));(try have zi:=yS (j:=1) (x:=w) i2 (by omega) (by omega));(try have e9:bO .add Za aH 1=aH+1:=cE (by omega));(try have e6:=O6 (es:=a8) (x:=[[.i aH,.i w,.i z,.i t]]) i0 (by omega)))
 all_goals first
  | (show(_:List DV)=_
     first
      |(first|(rw[q.1,q.2.1,q.2.2.1,q.2.2.2.1,q.2.2.2.2.1,q.2.2.2.2.2.1,q.2.2.2.2.2.2.1,q.2.2.2.2.2.2.2.1,q.2.2.2.2.2.2.2.2.1,q.2.2.2.2.2.2.2.2.2,cz,p.1,p.2];done)|(rw[q.1,q.2.1,q.2.2.1,q.2.2.2.1,q.2.2.2.2.1,q.2.2.2.2.2.1,q.2.2.2.2.2.2.1,q.2.2.2.2.2.2.2.1,q.2.2.2.2.2.2.2.2.1,q.2.2.2.2.2.2.2.2.2,cz,p.1,p.2];exact rfl))
      |(first|(rw[q.1,q.2.1,q.2.2.1,q.2.2.2.1,q.2.2.2.2.1,q.2.2.2.2.2.1,q.2.2.2.2.2.2.1,q.2.2.2.2.2.2.2.1,q.2.2.2.2.2.2.2.2.1,q.2.2.2.2.2.2.2.2.2,cz,p.1,p.2,r];done)|(rw[q.1,q.2.1,q.2.2.1,q.2.2.2.1,q.2.2.2.2.1,q.2.2.2.2.2.1,q.2.2.2.2.2.2.1,q.2.2.2.2.2.2.2.1,q.2.2.2.2.2.2.2.2.1,q.2.2.2.2.2.2.2.2.2,cz,p.1,p.2,r];exact rfl))
      |(first|(rw[q.1,q.2.1,q.2.2.1,q.2.2.2.1,q.2.2.2.2.1,q.2.2.2.2.2.1,q.2.2.2.2.2.2.1,q.2.2.2.2.2.2.2.1,q.2.2.2.2.2.2.2.2.1,q.2.2.2.2.2.2.2.2.2,cz,p.1,p.2,r, <-zi,e9];done)|(rw[q.1,q.2.1,q.2.2.1,q.2.2.2.1,q.2.2.2.2.1,q.2.2.2.2.2.1,q.2.2.2.2.2.2.1,q.2.2.2.2.2.2.2.1,q.2.2.2.2.2.2.2.2.1,q.2.2.2.2.2.2.2.2.2,cz,p.1,p.2,r, <-zi,e9];exact rfl))
      |done)
  | (show(_:List H)=_
     first
      |done)
  |omega
  |exact fQ
  |exact hp
  |exact hp.hp
  |exact⟨h8,by omega⟩
  |exact⟨hp,hk,by omega,ti,ve (by assumption),c6,c9⟩
  |exact⟨hp,HH.k,c0,by omega,hz,c7⟩
  |exact Mv h8 i0 (by omega) (by decide)
  |exact bV
  |exact Pi i2 (by omega)
  |exact⟨i0,by omega,by omega,Rw.scal (fs:=[tI,tI,tI,tI]) h8 rfl,by simp[bF,eC,scal],rfl⟩
  |exact Rw.scal (fs:=[tI,tI,tI,tI]) h8 rfl
  |exact Rw.scal (fs:=[tI,tI,tI,tI]) (M1 h8).1 rfl
  |(have sl:=fun(a b:Nat)=>(M1 (a:=a) (b:=b) h8).2;refine⟨?_,?_⟩<;>(simp only[List.length_nil,List.length_append,List.length_cons];have s1:=sl (Int.toNat 0) (BS i 0);have s2:=sl i.toNat (BS (a8.length:Int) i);omega))
  |(show aw _ _=true;kernel_rfl)
  |exact⟨Zb,Zb⟩
  |exact Zb
  |done
def jx:EC:=fun F=>fun
 |[.agg hl_]=>hL hl_ fun a0 a1 a2 a3 a4 a5 a6 a7 a8 a9 aA aB aC aD aE aF aG aH aI aJ aK aL aM aN=>(fun _=>HvW (HV.mk a0 a1 a2 a3 a4 a5 a6 a7 a8 a9 aA aB aC aD aE aF aG aH aI aJ aK aL aM aN),[.k (F.hOk (HV.mk a0 a1 a2 a3 a4 a5 a6 a7 a8 a9 aA aB aC aD aE aF aG aH aI aJ aK aL aM aN))])
 |_=>none
theorem tD:ec 17 jx:=by
 intro _ _ _ h hp;dsimp only[jx,F0,hL]at h;split at h;rotate_left;cases h;split at h<;>cases h
 rename_i a0 a1 a2 a3 a4 a5 a6 a7 a8 a9 aA aB aC aD aE aF aG aH aI aJ aK aL aM aN;exact lh _ _ _ rfl (HV.wf_hc hp.w).1.hp
def iC:EC:=fun F=>fun
 |[.one (.v (.int Za p)),.one (.v (.int Za f)),.one (.v (.int Za t)),.one (.v (.int Za l)),.one (.s 1 rs)]=>some (fun _=>Rw [tI] rs/\rs.length<=1099511627776,[hvD (F.hNw p f t l rs),.k (F.hnB p f t l rs)])
 |_=>none
theorem rz:ec 10 iC:=by
 intro _ _ _ h hp;dsimp only[iC,F0]at h;split at h<;>cases h
 rename_i p f t l rs;exact uJ _ _ _ rfl hp
def gy:EC:=fun F=>fun
 |[.agg hl_,.one (.v (.int Za t)),.one (.v (.int Za z))]=>hL hl_ fun a0 a1 a2 a3 a4 a5 a6 a7 a8 a9 aA aB aC aD aE aF aG aH aI aJ aK aL aM aN=>(fun _=>HvW (HV.mk a0 a1 a2 a3 a4 a5 a6 a7 a8 a9 aA aB aC aD aE aF aG aH aI aJ aK aL aM aN)/\Ak t/\Ak z,[hvD (F.hAl (HV.mk a0 a1 a2 a3 a4 a5 a6 a7 a8 a9 aA aB aC aD aE aF aG aH aI aJ aK aL aM aN) t z),.j (F.hAA (HV.mk a0 a1 a2 a3 a4 a5 a6 a7 a8 a9 aA aB aC aD aE aF aG aH aI aJ aK aL aM aN) t z),.j (F.hAR (HV.mk a0 a1 a2 a3 a4 a5 a6 a7 a8 a9 aA aB aC aD aE aF aG aH aI aJ aK aL aM aN) t z)])
 |_=>none
theorem pp:ec 11 gy:=by
 intro _ _ _ h hp;dsimp only[gy,F0,hL]at h;split at h;rotate_left;cases h;split at h<;>cases h
 rename_i t z _ a0 a1 a2 a3 a4 a5 a6 a7 a8 a9 aA aB aC aD aE aF aG aH aI aJ aK aL aM aN;have C:=HV.wf_hc hp.1.w;exact rt _ _ _ rfl ⟨C.1,Nat.le_trans C.2.1 (by decide),Nat.le_trans C.2.2.1 (by decide),Nat.le_trans C.2.2.2.1 (by decide),C.2.2.2.2.1,hp.2.1,hp.2.2⟩
end Go.V