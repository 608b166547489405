/- Contracts. -/
import Derived.Test.YtpldpilhgjpkjaaGreatXM7
set_option linter.all false
open Go
open And renaming intro->Zd
open IntKind renaming i64->Za
open True renaming intro->Zb
namespace Go.V
open Go Go.Proofs
set_option maxRecDepth 1000000
set_option maxHeartbeats 8000000
abbrev Zq0:dp:={
 Φ:=tW
 F0:=F0
 ct:=fun F f=>match f with|144=>gG F|_=>fun _=>none
 hc:=(by
  intro f;dsimp only;split;exact nH;exact dB)
 pt:=fun F f=>match f with|142=>some (fU F)|_=>none
 hp:=(by
  intro f mk h;dsimp only at h;split at h<;>cases h
  exact mw)
 ot:=fun F f=>match f with|145=>some (am F)|_=>none
 ho:=(by
  intro f mk h;dsimp only at h;split at h<;>cases h
  exact cA)}
def iX:EP:=fun F=>fun
 |[.mp hl_,.one (.v (.int Za z))]=>hM hl_ fun a0 a1 a2 a3 a4 a5 a6 a7 a8 a9 aA aB aC aD aE aF aG aH aI aJ aK aL aM aN=>(fun _=>lq a0 a1 a2 a4 a5 a6 a7 a8 a9 aA aB aD aL/\kerOk a0 a1 a2 a3 a4=true/\0<=a3/\a3<=90000/\AN z/\ap a7<=1000000000,[(Lc (F.xpC a0 a1 a2 a3 a4 a5 (F.pfN z)) (F.xpU a0 a1 a2 a3 a4 a5 (F.pfN z)) (F.xpE a0 a1 a2 a3 a4 a5 (F.pfN z)) (F.xpK a1 a2 a3 a4 a5 (F.pfN z)) a4 (F.xpF a1 a2 a3 a4 a5 (F.pfN z)) a6 (F.xlL a1 a2 a3 a4 a5 a7 z) a8 a9 aA aB aC aD aE aF aG aH aI aJ aK aL aM aN)],[.j (F.xlA a1 a2 a3 a4 a5 z),.k (F.xpB a1 a2 a3 a4 a5 (F.pfN z))])
 |_=>none
theorem sj:ep 40 iX:=by
 intro _ _ _ _ h hp;dsimp only[iX,F0,hM]at h;split at h;rotate_left;cases h;split at h<;>cases h
 rename_i z _ a0 a1 a2 a3 a4 a5 a6 a7 a8 a9 aA aB aC aD aE aF aG aH aI aJ aK aL aM aN;obtain⟨hp,hk,c0,c1,⟨z0,z1⟩,c7⟩:=hp;have l7:=aO (es:=a7);have h7:=hp.r7;refine pb Zq0 Tryz.func40 ?_
 intro O r os F hO hr hos hF;cbv
 repeat' first|apply Zd|(apply cP<;>intro hb<;>cbv)|(refine⟨[0,1,6,8],[0],Int,fun i=>[.reg 8 (.j i)],fun i=>0<=i/\i<=((a7.length:Nat):Int)/\upto (cR (Gp a7 0 (xpA a1 a2 a3 a4 a5 (pfN z)))) i,fun i=>(a7.length)-i.toNat,⟨0,?_,?_⟩,?_⟩;rotate_left;(focus (cbv;done));intro i hi;replace hi:0<=i/\i<=((a7.length:Nat):Int)/\upto (cR (Gp a7 0 (xpA a1 a2 a3 a4 a5 (pfN z)))) i:=hi;obtain⟨i0,i1,i2⟩:=hi;cbv)|(refine ah (O.ar .add Za i 1) ?_ ?_ ?_;focus (cbv;done))
 all_goals((try subst hos);subst hO hr hF;(try simp only[nc]at*);(try simp only[aj,SS,sa,az]at*);(try rw[dx (by omega) (by omega)]);(try simp only[gV (l:=a7) (sz:=3) (j:=0) i0]at*);(try have xb:xpB a1 a2 a3 a4 a5 (pfN z)=true:=(by assumption));(try have pg:=J3 xb);(try have e1:bO .mul Za (xpA a1 a2 a3 a4 a5 (pfN z)) 16=xpA a1 a2 a3 a4 a5 (pfN z)*16:=wh (by omega));(try have zi:=E9 i2 i0 (by omega) (by omega:xpA a1 a2 a3 a4 a5 (pfN z)<=ag a7 i 0));(try have zi:=zx i2 (by omega) (by omega));(try have y:=agd (a7:=a7) xb);(try have y:=adr (a7:=a7) (by assumption:xpB a1 a2 a3 a4 a5 (pfN z)=false)))
 all_goals first
  | (show(_:List DV)=_
     first
      |(first|(rw[y.2,xb,e1];done)|(rw[y.2,xb,e1];exact rfl))
      |(first|(rw[y.2,(by assumption:xpB a1 a2 a3 a4 a5 (pfN z)=false)];done)|(rw[y.2,(by assumption:xpB a1 a2 a3 a4 a5 (pfN z)=false)];exact rfl))
      |done)
  | (show(_:List H)=_
     first
      |(first|(rw[y.1];done)|(rw[y.1];exact rfl))
      |(first|(rw[y.1, <-zi];done)|(rw[y.1, <-zi];exact rfl))
      |done)
  |omega
  |exact fK
  |exact⟨hp,hk,c0,c1,afG z0 z1⟩
  |exact cg
  |exact Qw i2 (by omega)
  |exact tC h7 i0 (by omega) (by decide)
  |exact⟨i0,by omega,by omega,Rw.scal (fs:=[tI,tI,tI]) h7 rfl,by simp[bE,eF,scal],rfl⟩
  |(show ax _ _=true;kernel_rfl)
  |exact⟨Zb,Zb⟩
  |exact Zb
  |done
abbrev Zq2:dp:={
 Φ:=tW
 F0:=F0
 ct:=fun F f=>match f with|36=>dO F|17=>eP F|33=>ay F|37=>iS F|38=>ea F|_=>fun _=>none
 hc:=(by
  intro f;dsimp only;split;exact gC;exact gu;exact aS;exact rY;exact gZ;exact dB)
 pt:=fun F f=>match f with|39=>some (iY F)|40=>some (iX F)|_=>none
 hp:=(by
  intro f mk h;dsimp only at h;split at h<;>cases h
  exact sk;exact sj)
 ot:=fun F f=>match f with|41=>some (bB F)|_=>none
 ho:=(by
  intro f mk h;dsimp only at h;split at h<;>cases h
  exact cI)}
def mB:EC:=fun F=>fun
 |[.agg hl_,.one (.v (.int Za t)),.one (.v (.int Za z))]=>hL hl_ fun a0 a1 a2 a3 a4 a5 a6 a7 a8 a9 aA aB aC aD aE aF aG aH aI aJ aK aL aM aN=>(fun _=>lq a0 a1 a2 a4 a5 a6 a7 a8 a9 aA aB aD aL/\ap a6<=1000000000/\ap a7<=1000000000/\ap a8<=1000000000/\ap a9<=300000000/\AN t/\AN z,[.agg (Lb (F.xaC (F.xaO (F.hpI a0 a1 a2 a3 a4 a5 a6 a7 a8 a9 aA aB aC aD aE aF aG aH aI aJ aK aL aM aN) a3 a8 a9 aG aH t z) a0 a1 a2 a3 a4 a5 a6 a7 a9 aE aI aJ aK t z) (F.xaU (F.xaO (F.hpI a0 a1 a2 a3 a4 a5 a6 a7 a8 a9 aA aB aC aD aE aF aG aH aI aJ aK aL aM aN) a3 a8 a9 aG aH t z) a0 a1 a2 a3 a4 a5 a6 a7 a9 aE aI aJ aK t z) (F.xaE (F.xaO (F.hpI a0 a1 a2 a3 a4 a5 a6 a7 a8 a9 aA aB aC aD aE aF aG aH aI aJ aK aL aM aN) a3 a8 a9 aG aH t z) a0 a1 a2 a3 a4 a5 a6 a7 a9 aE aI aJ aK t z) (F.xaK (F.xaO (F.hpI a0 a1 a2 a3 a4 a5 a6 a7 a8 a9 aA aB aC aD aE aF aG aH aI aJ aK aL aM aN) a3 a8 a9 aG aH t z) a0 a1 a2 a3 a4 a5 a6 a7 a9 aE aI aJ aK t z) a4 (F.xaF (F.xaO (F.hpI a0 a1 a2 a3 a4 a5 a6 a7 a8 a9 aA aB aC aD aE aF aG aH aI aJ aK aL aM aN) a3 a8 a9 aG aH t z) a0 a1 a2 a3 a4 a5 a6 a7 a9 aE aI aJ aK t z) (F.xaS (F.xaO (F.hpI a0 a1 a2 a3 a4 a5 a6 a7 a8 a9 aA aB aC aD aE aF aG aH aI aJ aK aL aM aN) a3 a8 a9 aG aH t z) a0 a1 a2 a3 a4 a5 a6 a7 a9 aE aI aJ aK t z) (F.xaL (F.xaO (F.hpI a0 a1 a2 a3 a4 a5 a6 a7 a8 a9 aA aB aC aD aE aF aG aH aI aJ aK aL aM aN) a3 a8 a9 aG aH t z) a0 a1 a2 a3 a4 a5 a6 a7 a9 aE aI aJ aK t z) (F.xaP a8 aH t z (F.xaA (F.xaO (F.hpI a0 a1 a2 a3 a4 a5 a6 a7 a8 a9 aA aB aC aD aE aF aG aH aI aJ aK aL aM aN) a3 a8 a9 aG aH t z) a0 a1 a2 a3 a4 a5 a6 a7 a9 aE aI aJ aK t z)) (F.xaX (F.xaO (F.hpI a0 a1 a2 a3 a4 a5 a6 a7 a8 a9 aA aB aC aD aE aF aG aH aI aJ aK aL aM aN) a3 a8 a9 aG aH t z) a0 a1 a2 a3 a4 a5 a6 a7 a9 aE aI aJ aK t z) aA aB aC aD (F.xaD (F.xaO (F.hpI a0 a1 a2 a3 a4 a5 a6 a7 a8 a9 aA aB aC aD aE aF aG aH aI aJ aK aL aM aN) a3 a8 a9 aG aH t z) a0 a1 a2 a3 a4 a5 a6 a7 a9 aE aI aJ aK t z) aF aG (F.xaN aH (F.xaA (F.xaO (F.hpI a0 a1 a2 a3 a4 a5 a6 a7 a8 a9 aA aB aC aD aE aF aG aH aI aJ aK aL aM aN) a3 a8 a9 aG aH t z) a0 a1 a2 a3 a4 a5 a6 a7 a9 aE aI aJ aK t z)) aI aJ aK aL aM aN),.j (F.xaA (F.xaO (F.hpI a0 a1 a2 a3 a4 a5 a6 a7 a8 a9 aA aB aC aD aE aF aG aH aI aJ aK aL aM aN) a3 a8 a9 aG aH t z) a0 a1 a2 a3 a4 a5 a6 a7 a9 aE aI aJ aK t z),.j (F.xaR (F.xaG (F.hpI a0 a1 a2 a3 a4 a5 a6 a7 a8 a9 aA aB aC aD aE aF aG aH aI aJ aK aL aM aN) a3 a8 a9 aG aH t z) (F.xaA (F.xaO (F.hpI a0 a1 a2 a3 a4 a5 a6 a7 a8 a9 aA aB aC aD aE aF aG aH aI aJ aK aL aM aN) a3 a8 a9 aG aH t z) a0 a1 a2 a3 a4 a5 a6 a7 a9 aE aI aJ aK t z))])
 |_=>none
theorem rU:ec 11 mB:=by
 intro _ _ _ h hp;dsimp only[mB,F0,hL]at h;split at h;rotate_left;cases h;split at h<;>cases h
 rename_i t z _ a0 a1 a2 a3 a4 a5 a6 a7 a8 a9 aA aB aC aD aE aF aG aH aI aJ aK aL aM aN;obtain⟨hp,c6,c7,c8,c9,ht,hz⟩:=hp;have l8:=aO (es:=a8);have l9:=aO (es:=a9);have h8:=hp.r8;have c8':=hp.c8;have c9':=hp.c9;have e0:bO .sub Za (a9.length:Int) 1=a9.length-1:=gg (by omega);obtain⟨w,hw⟩:∃ w,xaA (xaO (hpI a0 a1 a2 a3 a4 a5 a6 a7 a8 a9 aA aB aC aD aE aF aG aH aI aJ aK aL aM aN) a3 a8 a9 aG aH t z) a0 a1 a2 a3 a4 a5 a6 a7 a9 aE aI aJ aK t z=w:=⟨_,rfl⟩;refine cb Zq2 Tryz.func11 ?_
 intro O r F hO hr hF;cbv
 repeat' first|apply Zd|(apply cP<;>intro hb<;>cbv)|(refine⟨[1,2,3,6,9,10,13],[3,6,9],Int,fun i=>[.reg 13 (.j i)],fun i=>0<=i/\i<=((a8.length:Nat):Int)/\upto (cR (Gp a8 1 w)) i,fun i=>(a8.length)-i.toNat,⟨0,?_,?_⟩,?_⟩;rotate_left;(focus (cbv;done));intro i hi;replace hi:0<=i/\i<=((a8.length:Nat):Int)/\upto (cR (Gp a8 1 w)) i:=hi;obtain⟨i0,i1,i2⟩:=hi;cbv)|(refine ah (O.ar .add Za i 1) ?_ ?_ ?_;focus (cbv;done))
 all_goals(subst hO hr hF;(try simp only[nc]at*);(try simp only[aj,SS,sa,az]at*);(try simp only[e0]at*);(try rw[dx (by omega) (by omega)]);(try simp only[gV (l:=a8) (sz:=4) (j:=1) i0]at*);(try have hk:hpI a0 a1 a2 a3 a4 a5 a6 a7 a8 a9 aA aB aC aD aE aF aG aH aI aJ aK aL aM aN=true:=(by assumption));(try have HH:=gB hk);(try have hx:=be.1 HH.x);(try have c0:=(jt HH.k).2.1);(try have ti:inR t 0 (a9.length-1)=true:=(by assumption));(try have zi':inR z 1 1000=true:=(by assumption));(try have cz:=J1 (h:=hpI a0 a1 a2 a3 a4 a5 a6 a7 a8 a9 aA aB aC aD aE aF aG aH aI aJ aK aL aM aN) (a3:=a3) (a8:=a8) (a9:=a9) (aG:=aG) (aH:=aH) (t:=t) (z:=z) (.inl (by assumption)));(try have cz:=J1 (h:=hpI a0 a1 a2 a3 a4 a5 a6 a7 a8 a9 aA aB aC aD aE aF aG aH aI aJ aK aL aM aN) (a3:=a3) (a8:=a8) (a9:=a9) (aG:=aG) (aH:=aH) (t:=t) (z:=z) (.inr (.inl (by omega:aH=1000000))));(try have cz:=J1 (h:=hpI a0 a1 a2 a3 a4 a5 a6 a7 a8 a9 aA aB aC aD aE aF aG aH aI aJ aK aL aM aN) (a3:=a3) (a8:=a8) (a9:=a9) (aG:=aG) (aH:=aH) (t:=t) (z:=z) (.inr (.inr (by omega:90000<a3))));(try have cz:=adf (a8:=a8) (aG:=aG) (z:=z) hk (by omega:aH≠1000000) (by omega) (by assumption:inR t 0 (a9.length-1)=false));(try have cz:=adg (a8:=a8) (aG:=aG) hk (by omega:aH≠1000000) (by omega) ti (by assumption:inR z 1 1000=false));(try have cz:=adh hk (by omega:aH≠1000000) (by omega) ti zi' (by omega:aG<bO .add Za (lsI a8) z));(try have cz:=adi hk (by omega:aH≠1000000) (by omega) ti zi' (by omega:bO .add Za (lsI a8) z<=aG));(try have q:=aga (a0:=a0) (a1:=a1) (a2:=a2) (a3:=a3) (a4:=a4) (a5:=a5) (a6:=a6) (a7:=a7) (a9:=a9) (aE:=aE) (aI:=aI) (aJ:=aJ) (aK:=aK) (t:=t) (z:=z) (adj cz (by decide)));(try have hm:w= -1:=hw.symm.trans q.2.2.2.2.2.2.2.2.2);(try have q:=agb (a0:=a0) (a1:=a1) (a2:=a2) (a3:=a3) (a4:=a4) (a5:=a5) (a6:=a6) (a7:=a7) (a9:=a9) (aE:=aE) (aI:=aI) (aJ:=aJ) (aK:=aK) (t:=t) (Oq cz) (by omega:0<=clsOf z));(try have q:=af9 (a0:=a0) (a1:=a1) (a2:=a2) (a3:=a3) (a4:=a4) (a5:=a5) (a6:=a6) (a7:=a7) (a9:=a9) (aE:=aE) (aI:=aI) (aJ:=aJ) (aK:=aK) (t:=t) (Oq cz) (by omega:clsOf z<0));(try have hv:xmA a0 a1 a2 a3 a4 a5 a6 a9 aE aI aJ aK t (clsOf z)=w:=q.2.2.2.2.2.2.2.2.2.symm.trans hw);(try have hv:xlA a1 a2 a3 a4 a5 z=w:=q.2.2.2.2.2.2.2.2.2.symm.trans hw);(try have hm:=adA hk (vJ (by omega)) hv (agf hk (vJ (by omega)) (by assumption) hv));(try have w0:=agh hk (vJ (by omega)) (by assumption) hv);(try have hm:=adq hv (ads (by assumption) hv));(try have w0:=adt (by assumption) hv);(try have hm:=adA hk (vJ (by omega)) hv (by omega:w<0));(try have hm:=adq hv (by omega:w<0));(try simp only[hv]at*);(try subst hm);(try have p:=adk (a8:=a8) (aH:=aH) (t:=t) (z:=z) (w:= -1) (by decide));(try have r:=adn (c:=0) (w:= -1) rfl (by decide));(try have p:=adl (a8:=a8) (aH:=aH) (t:=t) (z:=z) (by omega:0<=w));(try have r:=adm (c:=0) rfl (by omega:0<=w));(try have zi:=E9 i2 i0 (by omega) (by omega:w<=ag a8 i 1));(try have zi:=zx (j:=1) (x:=w) i2 (by omega) (by omega));(try have e9:bO .add Za aH 1=aH+1:=cG (by omega));(try have e6:=Qm (es:=a8) (x:=[[.i aH,.i w,.i z,.i t]]) i0 (by omega)))
 all_goals first
  | (show(_:List DV)=_
     first
      |(first|(rw[q.1,q.2.1,q.2.2.1,q.2.2.2.1,q.2.2.2.2.1,q.2.2.2.2.2.1,q.2.2.2.2.2.2.1,q.2.2.2.2.2.2.2.1,q.2.2.2.2.2.2.2.2.1,q.2.2.2.2.2.2.2.2.2,cz,p.1,p.2];done)|(rw[q.1,q.2.1,q.2.2.1,q.2.2.2.1,q.2.2.2.2.1,q.2.2.2.2.2.1,q.2.2.2.2.2.2.1,q.2.2.2.2.2.2.2.1,q.2.2.2.2.2.2.2.2.1,q.2.2.2.2.2.2.2.2.2,cz,p.1,p.2];exact rfl))
      |(first|(rw[q.1,q.2.1,q.2.2.1,q.2.2.2.1,q.2.2.2.2.1,q.2.2.2.2.2.1,q.2.2.2.2.2.2.1,q.2.2.2.2.2.2.2.1,q.2.2.2.2.2.2.2.2.1,q.2.2.2.2.2.2.2.2.2,cz,p.1,p.2,r];done)|(rw[q.1,q.2.1,q.2.2.1,q.2.2.2.1,q.2.2.2.2.1,q.2.2.2.2.2.1,q.2.2.2.2.2.2.1,q.2.2.2.2.2.2.2.1,q.2.2.2.2.2.2.2.2.1,q.2.2.2.2.2.2.2.2.2,cz,p.1,p.2,r];exact rfl))
      |(first|(rw[q.1,q.2.1,q.2.2.1,q.2.2.2.1,q.2.2.2.2.1,q.2.2.2.2.2.1,q.2.2.2.2.2.2.1,q.2.2.2.2.2.2.2.1,q.2.2.2.2.2.2.2.2.1,q.2.2.2.2.2.2.2.2.2,cz,p.1,p.2,r, <-zi,e9];done)|(rw[q.1,q.2.1,q.2.2.1,q.2.2.2.1,q.2.2.2.2.1,q.2.2.2.2.2.1,q.2.2.2.2.2.2.1,q.2.2.2.2.2.2.2.1,q.2.2.2.2.2.2.2.2.1,q.2.2.2.2.2.2.2.2.2,cz,p.1,p.2,r, <-zi,e9];exact rfl))
      |done)
  | (show(_:List H)=_
     first
      |done)
  |omega
  |exact fK
  |exact hp
  |exact hp.hp
  |exact⟨h8,by omega⟩
  |exact⟨hp,hk,by omega,ti,vJ (by assumption),c6,c9⟩
  |exact⟨hp,HH.k,c0,by omega,hz,c7⟩
  |exact Nt h8 i0 (by omega) (by decide)
  |exact cg
  |exact Qw i2 (by omega)
  |exact⟨i0,by omega,by omega,Rw.scal (fs:=[tI,tI,tI,tI]) h8 rfl,by simp[bE,eF,scal],rfl⟩
  |exact Rw.scal (fs:=[tI,tI,tI,tI]) h8 rfl
  |exact Rw.scal (fs:=[tI,tI,tI,tI]) (N6 h8).1 rfl
  |(have sl:=fun(a b:Nat)=>(N6 (a:=a) (b:=b) h8).2;refine⟨?_,?_⟩<;>(simp only[List.length_nil,List.length_append,List.length_cons];have s1:=sl (Int.toNat 0) (vM i 0);have s2:=sl i.toNat (vM (a8.length:Int) i);omega))
  |(show ax _ _=true;kernel_rfl)
  |exact⟨Zb,Zb⟩
  |exact Zb
  |done
def jM:EC:=fun F=>fun
 |[.agg hl_]=>hL hl_ fun a0 a1 a2 a3 a4 a5 a6 a7 a8 a9 aA aB aC aD aE aF aG aH aI aJ aK aL aM aN=>(fun _=>SR (HV.mk a0 a1 a2 a3 a4 a5 a6 a7 a8 a9 aA aB aC aD aE aF aG aH aI aJ aK aL aM aN),[.k (F.hOk (HV.mk a0 a1 a2 a3 a4 a5 a6 a7 a8 a9 aA aB aC aD aE aF aG aH aI aJ aK aL aM aN))])
 |_=>none
theorem t7:ec 17 jM:=by
 intro _ _ _ h hp;dsimp only[jM,F0,hL]at h;split at h;rotate_left;cases h;split at h<;>cases h
 rename_i a0 a1 a2 a3 a4 a5 a6 a7 a8 a9 aA aB aC aD aE aF aG aH aI aJ aK aL aM aN;exact gu _ _ _ rfl (HV.wf_hc hp.w).1.hp
def iP:EC:=fun F=>fun
 |[.one (.v (.int Za p)),.one (.v (.int Za f)),.one (.v (.int Za t)),.one (.v (.int Za l)),.one (.s 1 rs)]=>some (fun _=>Rw [tI] rs/\rs.length<=1099511627776,[hvD (F.hNw p f t l rs),.k (F.hnB p f t l rs)])
 |_=>none
theorem rV:ec 10 iP:=by
 intro _ _ _ h hp;dsimp only[iP,F0]at h;split at h<;>cases h
 rename_i p f t l rs;exact vk _ _ _ rfl hp
def gK:EC:=fun F=>fun
 |[.agg hl_,.one (.v (.int Za t)),.one (.v (.int Za z))]=>hL hl_ fun a0 a1 a2 a3 a4 a5 a6 a7 a8 a9 aA aB aC aD aE aF aG aH aI aJ aK aL aM aN=>(fun _=>SR (HV.mk a0 a1 a2 a3 a4 a5 a6 a7 a8 a9 aA aB aC aD aE aF aG aH aI aJ aK aL aM aN)/\AN t/\AN z,[hvD (F.hAl (HV.mk a0 a1 a2 a3 a4 a5 a6 a7 a8 a9 aA aB aC aD aE aF aG aH aI aJ aK aL aM aN) t z),.j (F.hAA (HV.mk a0 a1 a2 a3 a4 a5 a6 a7 a8 a9 aA aB aC aD aE aF aG aH aI aJ aK aL aM aN) t z),.j (F.hAR (HV.mk a0 a1 a2 a3 a4 a5 a6 a7 a8 a9 aA aB aC aD aE aF aG aH aI aJ aK aL aM aN) t z)])
 |_=>none
theorem pJ:ec 11 gK:=by
 intro _ _ _ h hp;dsimp only[gK,F0,hL]at h;split at h;rotate_left;cases h;split at h<;>cases h
 rename_i t z _ a0 a1 a2 a3 a4 a5 a6 a7 a8 a9 aA aB aC aD aE aF aG aH aI aJ aK aL aM aN;have C:=HV.wf_hc hp.1.w;exact rU _ _ _ rfl ⟨C.1,Nat.le_trans C.2.1 (by decide),Nat.le_trans C.2.2.1 (by decide),Nat.le_trans C.2.2.2.1 (by decide),C.2.2.2.2.1,hp.2.1,hp.2.2⟩
end Go.V