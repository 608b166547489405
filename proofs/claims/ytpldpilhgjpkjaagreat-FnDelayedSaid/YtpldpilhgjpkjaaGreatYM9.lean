/- Contracts. -/
import Derived.Test.YtpldpilhgjpkjaaGreatYM6
set_option linter.all false
open Go
open And renaming intro->Zd
open IntKind renaming i64->Za
open True renaming intro->Zb
namespace Go.V
open Go Go.Proofs
set_option maxRecDepth 1000000
set_option maxHeartbeats 8000000
abbrev Jb0:dr:=dW (fun F f=>match f with|33=>ax F|64=>eJ F|_=>fun _=>none) (by
 intro f;dsimp only;split;exact aT;exact iU;exact dD)
def iJ:EC:=fun F=>fun
 |[.agg [.s 1 b,.s 1 x],.one (.v (.int Za f))]=>some (fun _=>F7 b x,[.k (F.htB b x f)])
 |_=>none
theorem rG:ec 158 iJ:=by
 intro _ _ _ h hp;dsimp only[iJ,F0]at h;split at h<;>cases h
 rename_i b x f;have hbl:=hp.bl;have hsb:bO .sub Za (b.length:Int) 1=b.length-1:=f9 (by omega);refine cb Jb0 Tryz.func158 ?_
 intro O r F hO hr hF;cbv
 repeat' first|apply Zd|(apply cS<;>intro hb<;>cbv)
 all_goals(subst hO hr hF;(try simp only[nc]at*);(try simp only[am,SS,sa,az]at*);(try simp only[hsb]at*))
 all_goals first
  | (show(_:List DV)=_
     first
      |exact au (TD (by assumption)).symm
      |exact au (TE (by assumption)).symm
      |exact au (TF (by assumption)).symm
      |exact au (TG (by assumption)).symm
      |done)
  |exact hp
  |(show aw _ _=true;kernel_rfl)
  |exact Zb
  |done
abbrev Zr1:dr:=dW (fun F f=>match f with|253=>gY F|135=>d6 F|66=>fh F|_=>fun _=>none) (by
 intro f;dsimp only;split;exact nN;exact iw;exact j6;exact dD)
def ju:EC:=fun F=>fun
 |[.agg [.s 1 ls],.one (.v (.int Za k)),.one (.v (.int Za a))]=>some (fun _=>Rw [.sl [tI]] ls/\av ls<=1073741824/\Ak a,[.agg [.s 1 (F.cpLq ls k a)],.k (F.cpBq ls k a)])
 |_=>none
theorem tz:ec 163 ju:=by
 intro _ _ _ h hp;dsimp only[ju,F0]at h;split at h<;>cases h
 rename_i ls k a;obtain⟨hw,hc,ha⟩:=hp;have N:=H1 hw (by omega);have ln:=aS (es:=ls);refine cb Zr1 Tryz.func163 ?_
 intro O r F hO hr hF;cbv
 repeat' first|apply Zd|(apply cS<;>intro hb<;>cbv)
 all_goals(subst hO hr hF;(try simp only[nc]at*);(try simp only[am,SS,sa,az]at*);(try simp only[iS]at*);(try have ht:clB ls k=true:=(by assumption));(try have hi:=xx ht);(try have k1:k<ls.length:=(by omega));(try have hq:=Ob hw hc ht ha);(try simp only[acI hw ht]at*);(try have hw:=hw))
 all_goals first
  | (show(_:List DV)=_
     first
      |(have q:=acF (a:=a) (by assumption:clB ls k=false);exact HK (RY q).symm q.symm)
      |(have q:=acG (by assumption:caOk (xE ls k a)=false);exact HK (RY q).symm q.symm)
      |(have q:=acH ht (by assumption:caOk (xE ls k a)=true);exact HK (RZ q).symm q.symm)
      |done)
  | (show(_:List H)=_
     first
      |done)
  |omega
  |exact fQ
  |exact N
  |exact⟨hw,by omega⟩
  |exact H1 hq.1 hq.2
  |exact⟨hq.1,hq.2⟩
  |exact yJ hw hi.1 k1
  |exact R8 hw hc ht
  |exact Og hw hi.1 k1
  |exact Of hw hi.1 k1
  |exact⟨hi.1,k1⟩
  |exact⟨hi.1,by omega⟩
  |(show aw _ _=true;kernel_rfl)
  |exact⟨Zb,Zb⟩
  |exact Zb
  |done
abbrev Zr2:dr:=dW (fun F f=>match f with|158=>iJ F|136=>gq F|64=>eJ F|132=>dp F|_=>fun _=>none) (by
 intro f;dsimp only;split;exact rG;exact nm;exact iU;exact eD;exact dD)
def nW:EC:=fun F=>fun
 |[.agg [.s 1 b,.s 1 x],.one (.v (.int Za f)),.agg [.v (.int Za to),.v (.int Za a)]]=>some (fun _=>Rw [.sl [tI,tI]] b/\Rw [.sl [tI]] x/\av b<=1073741824/\av x<=1073741824/\Ak to/\Ak a,[.agg [.s 1 (F.sdL b x f to a),.s 1 x],.k (F.sdB b x f to a)])
 |_=>none
theorem Aq:ec 57 nW:=by
 intro _ _ _ h hp;dsimp only[nW,F0]at h;split at h<;>cases h
 rename_i b x f to a;obtain⟨wb,wx,kb,cx,ho,ha⟩:=hp;have N:=H2 wb wx kb cx;have lb:=aS (es:=b);have lx:=aS (es:=x);refine cb Zr2 Tryz.func57 ?_
 intro O r F hO hr hF;cbv
 repeat' first|apply Zd|(apply cS<;>intro hb<;>cbv)
 all_goals(subst hO hr hF;(try simp only[nc]at*);(try simp only[am,SS,sa,az]at*);(try simp only[iS]at*);(try have ht:htB b x f=true:=(by assumption));(try have hi:=OU ht);(try have hq:=Qr wb hi.1 hi.2 kb ho ha);(try simp only[abr wb hi.1 hi.2]at*);(try have wb:=wb))
 all_goals first
  | (show(_:List DV)=_
     first
      |(have q:=aeA (to:=to) (a:=a) (by assumption:htB b x f=false);exact HR (M6 q).symm rfl q.symm)
      |(have q:=aeB (by assumption:mailOk (sdU b f to a) x=false);exact HR (M6 q).symm rfl q.symm)
      |(have q:=aeC ht (by assumption:mailOk (sdU b f to a) x=true);exact HR (M7 q).symm rfl q.symm)
      |done)
  | (show(_:List H)=_
     first
      |done)
  |omega
  |exact fQ
  |exact N
  |exact⟨wb,wx,by omega,by omega⟩
  |exact aax hq.1 wx (by omega) (by omega)
  |exact⟨hq.1,wx,by omega,by omega⟩
  |exact Hg wb hi.1 hi.2
  |exact abq wb kb hi.1 hi.2
  |exact Ll wb hi.1 hi.2
  |exact Lk wb hi.1 hi.2
  |exact⟨hi.1,hi.2⟩
  |(show aw _ _=true;kernel_rfl)
  |exact⟨Zb,Zb⟩
  |exact Zb
  |done
abbrev Zr3:dr:={
 Φ:=t8
 F0:=F0
 ct:=fun F f=>match f with|162=>dF F|163=>ju F|_=>fun _=>none
 hc:=(by
  intro f;dsimp only;split;exact fe;exact tz;exact dD)
 pt:=fun F f=>match f with|76=>some (gX F)|_=>none
 hp:=(by
  intro f mk h;dsimp only at h;split at h<;>cases h
  exact qa)}
def kv:EP:=fun F=>fun
 |[.mp hl_,.one (.v (.int Za t)),.one (.v (.int Za ad))]=>hM hl_ fun a0 a1 a2 a3 a4 a5 a6 a7 a8 a9 aA aB aC aD aE aF aG aH aI aJ aK aL aM aN=>(fun _=>mZ a0 a1 a2 a4 a5 a6 a7 a8 a9 aA aB aD aL/\kerOk a0 a1 a2 a3 a4=true/\a3≠100000/\a5.length<=65/\q7 a6/\(∃ i,oZ a6 ad i)/\0<=t/\t<a9.length,[(Kl (F.rcC aI aJ aK a0 a1 a2 a5 a6 a9 t ad) (F.rcU aI aJ aK a0 a1 a2 a5 a6 a9 t ad) (F.rcE aI aJ aK a0 a1 a2 a5 a6 a9 t ad) a3 a4 (F.rcF aI aJ aK a0 a1 a2 a5 a6 a9 t ad) (F.rcS aI aJ aK a0 a1 a2 a5 a6 a9 t ad) a7 a8 (F.rcD a6 a9 t ad) aA aB aC aD aE aF aG aH aI aJ aK aL aM aN)],[])
 |_=>none
theorem uV:ep 59 kv:=by
 intro _ _ _ _ h hp;dsimp only[kv,F0,hM]at h;split at h;rotate_left;cases h;split at h<;>cases h
 rename_i t ad _ a0 a1 a2 a3 a4 a5 a6 a7 a8 a9 aA aB aC aD aE aF aG aH aI aJ aK aL aM aN;obtain⟨hp,hk,hn,h5,g,⟨ix,v⟩,t0,t1⟩:=hp;have l6:=aS (es:=a6);have c6:=hp.c6;have c9:=hp.c9;have dn:=CZ (L:=a7) g v;have vi:=yT g v;have fs:=jQ g v;have vl:=v.l;have x0:(0:Int)<=ix:=(by omega);have x1:(ix:Int)<a6.length:=(by omega);have wc:=sr hp.r9 t0 t1;have gl:=iN (es:=a9) (i:=t) (j:=0);refine pb Zr3 Tryz.func59 ?_
 intro O r os F hO hr hos hF;cbv
 repeat' first|apply Zd|(apply cS<;>intro hb<;>cbv)
 all_goals((try subst hos);subst hO hr hF;(try simp only[nc]at*);(try simp only[am,SS,sa,az]at*);(try simp only[iS]at*);(try simp only[dn.1]at*);(try simp only[dn.2.1,dn.2.2]at*);(try simp only[hZ (l:=a6) (sz:=3) (j:=1) (i:=ix) x0]at*))
 all_goals first
  | (show(_:List DV)=_
     first
      |done)
  | (show(_:List H)=_
     first
      |(exfalso;have q:(1:Int)≠1:=(by assumption);exact q rfl)
      |(have b0:o6 (aO a9 t 0) (ag a6 ix 1) ad=true:=(by assumption);have b:Jp a6 a9 t ad=true:=(MR g v).trans b0;have z:=aeu (me:=aI) (kp:=aJ) (mv:=aK) (c:=a0) (u:=a1) (e:=a2) (f:=a5) b;rw[z.1,z.2.1,z.2.2.1,z.2.2.2.1,z.2.2.2.2.1,z.2.2.2.2.2,abk g v hp.r9 t0 t1 b0];exact rfl)
      |(have b0:o6 (aO a9 t 0) (ag a6 ix 1) ad=false:=(by assumption);have b:Jp a6 a9 t ad=false:=(MR g v).trans b0;have z:=aet (me:=aI) (kp:=aJ) (mv:=aK) (c:=a0) (u:=a1) (e:=a2) (f:=a5) b;rw[z.1,z.2.1,z.2.2.1,z.2.2.2.1,z.2.2.2.2.1,z.2.2.2.2.2];exact rfl)
      |done)
  |omega
  |exact fQ
  |exact⟨hp.r6,hp.r7⟩
  |exact⟨hp.r6,by omega⟩
  |exact⟨wc,by omega,by omega,by omega⟩
  |exact⟨hp,hk,hn,h5,g,ix,v⟩
  |exact sW hp.r6 x0 x1
  |exact sX hp.r6 x0 x1 (by decide)
  |exact AN hp.r9 t0 t1
  |exact xP hp.r9 t0 t1
  |exact E1 hp.r9 t0 t1
  |exact⟨t0,t1⟩
  |exact⟨x0,x1⟩
  |(show aw _ _=true;kernel_rfl)
  |exact⟨Zb,Zb⟩
  |exact Zb
  |done
end Go.V