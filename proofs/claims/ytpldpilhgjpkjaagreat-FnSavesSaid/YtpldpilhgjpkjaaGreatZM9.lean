/- Contracts. -/
import Derived.Test.YtpldpilhgjpkjaaGreatZM6
set_option linter.all false
open Go
open And renaming intro->Zc
open IntKind renaming i64->Za
open True renaming intro->Zd
noncomputable section
namespace Go.V
open Go Go.Proofs
set_option maxRecDepth 1000000
set_option maxHeartbeats 8000000
abbrev Jb4:di:=dH (fun F f=>match f with|150=>eX F|149=>lI F|33=>ap F|_=>fun _=>none) (by
 intro f;dsimp only;split;exact k9;exact xu;exact aw;exact dp)
def nW:EC:=fun F=>fun
 |[.agg [.s 1 cs,.s 1 us,.s 2 es],.one (.v (.int Za a)),.one (.v (.int Za v))]=>some (fun _=>Rw [.sl [tI]] cs/\Rw [tB] us/\Rw [tI,tI] es/\au cs<=1099511627776/\au us<=1099511627776/\au es<=1099511627776/\zk a,[.agg [.s 1 (F.stC cs us es a v),.s 1 us,.s 2 es],.j (F.stK cs us es a v)])
 |_=>none
def A2:ec 46 nW:=by
 intro _ _ _ h hp;dsimp only[nW,F0]at h;split at h<;>cases h
 rename_i cs us es a v;obtain⟨hc,hu,he,hn,hm,hk,ha⟩:=hp;refine cb Jb4 Tryz.func46 ?_
 intro O r F hO hr hF;cbv
 repeat' first|apply Zc|(apply cN<;>intro hb<;>cbv)
 all_goals(subst hO hr hF;(try simp only[nc]at*);(try simp only[aj,SS,sa,az]at*);(try simp only[hH]at*);(try(have hs:=Q5 (cs:=cs) (us:=us) (es:=es) (a:=a) Ud;have ha0:=(LS (cs:=cs) (us:=us) (es:=es) (a:=a) Ud).2));(try simp only[yp (n:=16) ha0]at*))
 all_goals first|exact⟨hc,hu,he,hn,hm,hk⟩|exact⟨hc,hu,he,ha⟩|exact HM (OV Ud).2.symm rfl rfl (OV Ud).1.symm|exact HM (af8 Ud).2.symm rfl rfl (af8 Ud).1.symm|exact HM (af9 Ud Ud Ud).2.symm rfl rfl (af9 Ud Ud Ud).1.symm|exact HM ((abG hc hs.1 hs.2.1 Uc Uc).trans (af7 Ud Ud Ud).2.symm) rfl rfl (af7 Ud Ud Ud).1.symm|exact J5 hc hs.1 hs.2.1 Uc Uc|exact sQ hc hs.1 hs.2.1|exact⟨Uc,Uc,pC hc hs.1 hs.2.1⟩|exact⟨trivial,trivial⟩|trivial|omega|done
abbrev Jb0:di:=dH (fun F f=>match f with|33=>ap F|64=>fA F|_=>fun _=>none) (by
 intro f;dsimp only;split;exact aw;exact jM;exact dp)
def jC:EC:=fun F=>fun
 |[.agg [.s 1 b,.s 1 x],.one (.v (.int Za f))]=>some (fun _=>IW b x,[.k (F.htB b x f)])
 |_=>none
def ua:ec 158 jC:=by
 intro _ _ _ h hp;dsimp only[jC,F0]at h;split at h<;>cases h
 rename_i b x f;have hbl:=hp.bl;have hsb:bQ .sub Za (b.length:Int) 1=b.length-1:=eR Uc;refine cb Jb0 Tryz.func158 ?_
 intro O r F hO hr hF;cbv
 repeat' first|apply Zc|(apply cN<;>intro hb<;>cbv)
 all_goals(subst hO hr hF;(try simp only[nc]at*);(try simp only[aj,SS,sa,az]at*);(try simp only[hsb]at*))
 all_goals first
  | (show(_:List DV)=_
     first
      |exact ax (ado Ud).symm
      |exact ax (adp Ud).symm
      |done)
  |exact hp
  |done
abbrev Zr1:di:=dH (fun F f=>match f with|253=>iP F|135=>eP F|66=>fS F|_=>fun _=>none) (by
 intro f;dsimp only;split;exact pe;exact jn;exact k7;exact dp)
def ki:EC:=fun F=>fun
 |[.agg [.s 1 ls],.one (.v (.int Za k)),.one (.v (.int Za a))]=>some (fun _=>Rw [.sl [tI]] ls/\au ls<=1073741824/\zk a,[.agg [.s 1 (F.cpLq ls k a)],.k (F.cpBq ls k a)])
 |_=>none
def vM:ec 163 ki:=by
 intro _ _ _ h hp;dsimp only[ki,F0]at h;split at h<;>cases h
 rename_i ls k a;obtain⟨hw,hc,ha⟩:=hp;have N:=KX hw Uc;have ln:=aS (es:=ls);refine cb Zr1 Tryz.func163 ?_
 intro O r F hO hr hF;cbv
 repeat' first|apply Zc|(apply cN<;>intro hb<;>cbv)
 all_goals(subst hO hr hF;(try simp only[nc]at*);(try simp only[aj,SS,sa,az]at*);(try simp only[hH]at*);(try have ht:clB ls k=true:=Ud);(try have hi:=zZ ht);(try have k1:k<ls.length:=Uc);(try have hq:=Sl hw hc ht ha);(try simp only[ahp hw ht]at*);(try have hw:=hw))
 all_goals first
  | (show(_:List DV)=_
     first
      |(have q:=ahm (a:=a) (by assumption:clB ls k=false);exact KA (acj q).symm q.symm)
      |(have q:=ahn (by assumption:caOk (Ag ls k a)=false);exact KA (acj q).symm q.symm)
      |(have q:=aho ht (by assumption:caOk (Ag ls k a)=true);exact KA (ack q).symm q.symm)
      |done)
  | (show(_:List H)=_
     first
      |done)
  |omega
  |exact⟨hw,Uc⟩
  |exact KX hq.1 hq.2
  |exact sQ hw hi.1 k1
  |exact acv hw hc ht
  |exact SB hw hi.1 k1
  |exact SA hw hi.1 k1
  |(show bz _ _=true;kernel_rfl)
  |exact⟨Zd,Zd⟩
  |done
abbrev Zr2:di:=dH (fun F f=>match f with|158=>jC F|136=>gT F|64=>fA F|132=>dG F|_=>fun _=>none) (by
 intro f;dsimp only;split;exact ua;exact oM;exact jM;exact fe;exact dp)
def pz:EC:=fun F=>fun
 |[.agg [.s 1 b,.s 1 x],.one (.v (.int Za f)),.agg [.v (.int Za to),.v (.int Za a)]]=>some (fun _=>Rw [.sl [tI,tI]] b/\Rw [.sl [tI]] x/\au b<=1073741824/\au x<=1073741824/\zk to/\zk a,[.agg [.s 1 (F.sdL b x f to a),.s 1 x],.k (F.sdB b x f to a)])
 |_=>none
def CM:ec 57 pz:=by
 intro _ _ _ h hp;dsimp only[pz,F0]at h;split at h<;>cases h
 rename_i b x f to a;obtain⟨wb,wx,kb,cx,ho,ha⟩:=hp;have N:=KY wb wx kb cx;have lb:=aS (es:=b);have lx:=aS (es:=x);refine cb Zr2 Tryz.func57 ?_
 intro O r F hO hr hF;cbv
 repeat' first|apply Zc|(apply cN<;>intro hb<;>cbv)
 all_goals(subst hO hr hF;(try simp only[nc]at*);(try simp only[aj,SS,sa,az]at*);(try simp only[hH]at*);(try have ht:htB b x f=true:=Ud);(try have hi:=Tn ht);(try have hq:=abi wb hi.1 hi.2 kb ho ha);(try simp only[afN wb hi.1 hi.2]at*);(try have wb:=wb))
 all_goals first
  | (show(_:List DV)=_
     first
      |(have q:=ajS (to:=to) (a:=a) (by assumption:htB b x f=false);exact KI (Q0 q).symm rfl q.symm)
      |(have q:=ajT (by assumption:mailOk (sdU b f to a) x=false);exact KI (Q0 q).symm rfl q.symm)
      |(have q:=ajU ht (by assumption:mailOk (sdU b f to a) x=true);exact KI (Q1 q).symm rfl q.symm)
      |done)
  | (show(_:List H)=_
     first
      |done)
  |omega
  |exact⟨wb,wx,Uc,Uc⟩
  |exact aeN hq.1 wx Uc Uc
  |exact J6 wb hi.1 hi.2
  |exact afM wb kb hi.1 hi.2
  |exact OL wb hi.1 hi.2
  |exact OK wb hi.1 hi.2
  |(show bz _ _=true;kernel_rfl)
  |exact⟨Zd,Zd⟩
  |done
abbrev Zr3:di:={
 Φ:=tH
 F0:=F0
 ct:=fun F f=>match f with|162=>dS F|163=>ki F|_=>fun _=>none
 hc:=(by
  intro f;dsimp only;split;exact fP;exact vM;exact dp)
 pt:=fun F f=>match f with|76=>some (fK F)|_=>none
 hp:=(by
  intro f mk h;dsimp only at h;split at h<;>cases h
  exact mo)}
def lK:EP:=fun F=>fun
 |[.mp hl_,.one (.v (.int Za t)),.one (.v (.int Za ad))]=>hM hl_ fun a0 a1 a2 a3 a4 a5 a6 a7 a8 a9 aA aB aC aD aE aF aG aH aI aJ aK aL aM aN=>(fun _=>kJ a0 a1 a2 a4 a5 a6 a7 a8 a9 aA aB aD aL/\kerOk a0 a1 a2 a3 a4=true/\a3≠100000/\a5.length<=65/\rR a6/\(∃ i,qg a6 ad i)/\0<=t/\t<a9.length,[(Ny (F.rcC aI aJ aK a0 a1 a2 a5 a6 a9 t ad) (F.rcU aI aJ aK a0 a1 a2 a5 a6 a9 t ad) (F.rcE aI aJ aK a0 a1 a2 a5 a6 a9 t ad) a3 a4 (F.rcF aI aJ aK a0 a1 a2 a5 a6 a9 t ad) (F.rcS aI aJ aK a0 a1 a2 a5 a6 a9 t ad) a7 a8 (F.rcD a6 a9 t ad) aA aB aC aD aE aF aG aH aI aJ aK aL aM aN)],[])
 |_=>none
def xx:ep 59 lK:=by
 intro _ _ _ _ h hp;dsimp only[lK,F0,hM]at h;split at h;rotate_left;cases h;split at h<;>cases h
 rename_i t ad _ a0 a1 a2 a3 a4 a5 a6 a7 a8 a9 aA aB aC aD aE aF aG aH aI aJ aK aL aM aN;obtain⟨hp,hk,hn,h5,g,⟨ix,v⟩,t0,t1⟩:=hp;have l6:=aS (es:=a6);have c6:=hp.c6;have c9:=hp.c9;have dn:=Fy (L:=a7) g v;have vi:=Bv g v;have fs:=kL g v;have vl:=v.l;have x0:(0:Int)<=ix:=Uc;have x1:(ix:Int)<a6.length:=Uc;have wc:=rK hp.r9 t0 t1;have gl:=jG (es:=a9) (i:=t) (j:=0);refine pb Zr3 Tryz.func59 ?_
 intro O r os F hO hr hos hF;cbv
 repeat' first|apply Zc|(apply cN<;>intro hb<;>cbv)
 all_goals((try subst hos);subst hO hr hF;(try simp only[nc]at*);(try simp only[aj,SS,sa,az]at*);(try simp only[hH]at*);(try simp only[dn.1]at*);(try simp only[dn.2.1,dn.2.2]at*);(try simp only[dY (l:=a6) (sz:=3) (j:=1) (i:=ix) x0]at*))
 all_goals first
  | (show(_:List DV)=_
     first
      |done)
  | (show(_:List H)=_
     first
      |(exfalso;have q:(1:Int)≠1:=Ud;exact q rfl)
      |(have b0:qK (aU a9 t 0) (ag a6 ix 1) ad=true:=Ud;have b:MA a6 a9 t ad=true:=(QL g v).trans b0;have z:=ajO (me:=aI) (kp:=aJ) (mv:=aK) (c:=a0) (u:=a1) (e:=a2) (f:=a5) b;rw[z.1,z.2.1,z.2.2.1,z.2.2.2.1,z.2.2.2.2.1,z.2.2.2.2.2,afD g v hp.r9 t0 t1 b0];exact rfl)
      |(have b0:qK (aU a9 t 0) (ag a6 ix 1) ad=false:=Ud;have b:MA a6 a9 t ad=false:=(QL g v).trans b0;have z:=ajN (me:=aI) (kp:=aJ) (mv:=aK) (c:=a0) (u:=a1) (e:=a2) (f:=a5) b;rw[z.1,z.2.1,z.2.2.1,z.2.2.2.1,z.2.2.2.2.1,z.2.2.2.2.2];exact rfl)
      |done)
  |omega
  |exact⟨hp.r6,hp.r7⟩
  |exact⟨wc,Uc,Uc,Uc⟩
  |exact⟨hp,hk,hn,h5,g,ix,v⟩
  |exact Hb hp.r6 x0 x1 (by decide)
  |exact Dd hp.r9 t0 t1
  |exact Aq hp.r9 t0 t1
  |exact HN hp.r9 t0 t1
  |(show bz _ _=true;kernel_rfl)
  |exact⟨Zd,Zd⟩
  |done
end Go.V