/- Contracts. -/
import Derived.Test.YtbedjnlfdopeeaaGreatHoKu
import Derived.Test.YtbedjnlfdopeeaaGreatM6
set_option linter.all false
open Go
open And renaming intro->Zb
open IntKind renaming i64->Za
open True renaming intro->Zh
namespace Go.V
open Go Go.Proofs
set_option maxRecDepth 1000000
set_option maxHeartbeats 8000000
abbrev Zl0:da:={
 Φ:=rz
 F0:=F0
 ct:=fun F f=>match f with|137=>eB F|138=>eR F|139=>qN F|176=>dI F|213=>j8 F|214=>eR F|215=>oq F|_=>fun _=>none
 hc:=(by
  intro f;dsimp only;split;exact gx;exact xc;exact FD;exact j4;exact sn;exact x9;exact Cl;exact de)
 pt:=fun F f=>match f with|140=>some (eU F)|216=>some (eU F)|_=>none
 hp:=(by
  intro f mk h;dsimp only at h;split at h<;>cases h
  exact xh;exact Ah)}
def dQ:EP:=fun F=>fun
 |[.mp hl_,.one (.v (.int Za ad))]=>hM hl_ fun a0 a1 a2 a3 a4 a5 a6 a7 a8 a9 aA aB aC aD aE aF aG aH aI aJ aK aL aM aN=>(fun _=>o6 a0 a1 a2 a4 a5 a6 a7 a8 a9 aA aB aD aL/\kerOk a0 a1 a2 a3 a4=true/\a3≠100000/\a5.length<=65/\uM a6/\(∃ i,rV a6 ad i),[(hpM (F.fzC aI aJ aK a0 a1 a2 a5 a6 ad) (F.fzU aI aJ aK a0 a1 a2 a5 a6 ad) (F.fzE aI aJ aK a0 a1 a2 a5 a6 ad) a3 a4 (F.fzF aI aJ aK a0 a1 a2 a5 a6 ad) (F.fzS aI aJ aK a0 a1 a2 a5 a6 ad) a7 a8 a9 aA aB aC aD aE aF aG aH aI aJ aK aL aM aN)],[])
 |_=>none
theorem tq:ep 43 dQ:=by
 intro _ _ _ _ h hp;dsimp only[dQ,F0,hM]at h;split at h;rotate_left;cases h;split at h<;>cases h
 rename_i ad _ a0 a1 a2 a3 a4 a5 a6 a7 a8 a9 aA aB aC aD aE aF aG aH aI aJ aK aL aM aN;obtain⟨hp,hk,hn,h5,g,ix,v⟩:=hp;have l6:=au (es:=a6);have c6:=hp.c6;have dn:=AS (L:=a7) g v;have vi:=vF g v;have fs:=jy g v;have vl:=v.l;have up:=RD hp.r6 g v;have pg:=Ee g v;have pl:=pg.2;have w1:=LV hp.r6 g v;have x0:(0:Int)<=ix:=(by omega);have x1:(ix:Int)<a6.length:=(by omega);have x2:(ix:Int)<(js a6 ad).length:=(by omega);refine pb Zl0 Tryz.func43 ?_
 intro O r os F hO hr hos hF;cbv
 repeat' first|apply Zb|(apply bF<;>intro hb<;>cbv)
 all_goals((try subst hos);subst hO hr hF;(try simp only[nc]at*);(try simp only[ah,SS,sa,az]at*);(try simp only[dn.1]at*);(try simp only[dn.2.1,dn.2.2]at*);(try simp only[lD (l:=a6) (sz:=3) (j:=0) (i:=ix) x0,lD (l:=a6) (sz:=3) (j:=1) (i:=ix) x0,lD (l:=a6) (sz:=3) (j:=2) (i:=ix) x0]at*);(try simp only[show saS (ab a6 ix 0) (ab a6 ix 1) (ab a6 ix 2) ad=yP a6 ad ix from rfl]at*);(try simp only[up]at*);(try simp only[lD (l:=js a6 ad) (sz:=3) (j:=0) (i:=ix) x0,lD (l:=js a6 ad) (sz:=3) (j:=1) (i:=ix) x0,lD (l:=js a6 ad) (sz:=3) (j:=2) (i:=ix) x0]at*))
 all_goals first
  | (show(_:List DV)=_
     first
      |done)
  | (show(_:List H)=_
     first
      |(exfalso;have q:(1:Int)≠1:=(by assumption);exact q rfl)
      |(have b:=Rz (me:=aI) (kp:=aJ) (mv:=aK) g v (by assumption);have z:=Pz (c:=a0) (u:=a1) (e:=a2) (f:=a5) b;rw[z.1,z.2.1,z.2.2.1,z.2.2.2.1,z.2.2.2.2];exact rfl)
      |(have b:=RA (me:=aI) (kp:=aJ) (mv:=aK) g v (by assumption);have z:=Pz (c:=a0) (u:=a1) (e:=a2) (f:=a5) b;rw[z.1,z.2.1,z.2.2.1,z.2.2.2.1,z.2.2.2.2];exact rfl)
      |(have b:=RB (me:=aI) (kp:=aJ) (mv:=aK) g v (by assumption) (by assumption);have z:=ac5 (c:=a0) (u:=a1) (e:=a2) (f:=a5) g v b;rw[z.1,z.2.1,z.2.2.1,z.2.2.2.1,z.2.2.2.2];exact rfl)
      |done)
  |omega
  |exact gj
  |exact⟨hp.r6,hp.r7⟩
  |exact⟨RV hp g v,hk,hn,by omega,by omega,by omega,by omega,by omega⟩
  |exact uh hp.r6 x0 x1
  |exact Tw hp.r6 x0 x1
  |exact uh w1 x0 x2
  |exact sr hp.r6 x0 x1 (by decide)
  |exact sr w1 x0 x2 (by decide)
  |(show aP _ _=true;kernel_rfl)
  |exact⟨Zh,Zh⟩
  |exact Zh
  |done
theorem Ai:ep 106 dQ:=by
 intro _ _ _ _ h hp;dsimp only[dQ,F0,hM]at h;split at h;rotate_left;cases h;split at h<;>cases h
 rename_i ad _ a0 a1 a2 a3 a4 a5 a6 a7 a8 a9 aA aB aC aD aE aF aG aH aI aJ aK aL aM aN;obtain⟨hp,hk,hn,h5,g,ix,v⟩:=hp;have l6:=au (es:=a6);have c6:=hp.c6;have dn:=AS (L:=a7) g v;have vi:=vF g v;have fs:=jy g v;have vl:=v.l;have up:=RD hp.r6 g v;have pg:=Ee g v;have pl:=pg.2;have w1:=LV hp.r6 g v;have x0:(0:Int)<=ix:=(by omega);have x1:(ix:Int)<a6.length:=(by omega);have x2:(ix:Int)<(js a6 ad).length:=(by omega);have e1:bO .quo Za ad 16=ad/16:=sv (by omega) (by omega) (by omega);refine pb Zl0 Tryz.func106 ?_
 intro O r os F hO hr hos hF;cbv
 repeat' first|apply Zb|(apply bF<;>intro hb<;>cbv)
 all_goals((try subst hos);subst hO hr hF;(try simp only[nc]at*);(try simp only[ah,SS,sa,az]at*);(try simp only[e1]at*);(try simp only[fs.2.1]at*);(try simp only[show saS (ab a6 ix 0) (ab a6 ix 1) (ab a6 ix 2) ad=yP a6 ad ix from rfl]at*);(try simp only[lD (l:=a6) (sz:=3) (j:=0) (i:=ix) x0,lD (l:=a6) (sz:=3) (j:=1) (i:=ix) x0,lD (l:=a6) (sz:=3) (j:=2) (i:=ix) x0]at*);(try simp only[show saS (ab a6 ix 0) (ab a6 ix 1) (ab a6 ix 2) ad=yP a6 ad ix from rfl]at*);(try simp only[up]at*);(try simp only[lD (l:=js a6 ad) (sz:=3) (j:=0) (i:=ix) x0,lD (l:=js a6 ad) (sz:=3) (j:=1) (i:=ix) x0,lD (l:=js a6 ad) (sz:=3) (j:=2) (i:=ix) x0]at*))
 all_goals first
  | (show(_:List DV)=_
     first
      |done)
  | (show(_:List H)=_
     first
      |(exfalso;have q:(1:Int)≠1:=(by assumption);exact q rfl)
      |(have b:=Rz (me:=aI) (kp:=aJ) (mv:=aK) g v (by assumption);have z:=Pz (c:=a0) (u:=a1) (e:=a2) (f:=a5) b;rw[z.1,z.2.1,z.2.2.1,z.2.2.2.1,z.2.2.2.2];exact rfl)
      |(have b:=RA (me:=aI) (kp:=aJ) (mv:=aK) g v (by assumption);have z:=Pz (c:=a0) (u:=a1) (e:=a2) (f:=a5) b;rw[z.1,z.2.1,z.2.2.1,z.2.2.2.1,z.2.2.2.2];exact rfl)
      |(have b:=RB (me:=aI) (kp:=aJ) (mv:=aK) g v (by assumption) (by assumption);have z:=ac5 (c:=a0) (u:=a1) (e:=a2) (f:=a5) g v b;rw[z.1,z.2.1,z.2.2.1,z.2.2.2.1,z.2.2.2.2];exact rfl)
      |done)
  |omega
  |exact gj
  |exact⟨hp.r6,by omega⟩
  |exact⟨by omega,by omega⟩
  |exact⟨RV hp g v,hk,hn,by omega,by omega,by omega,by omega,by omega⟩
  |exact uh hp.r6 x0 x1
  |exact Tw hp.r6 x0 x1
  |exact uh w1 x0 x2
  |exact sr hp.r6 x0 x1 (by decide)
  |exact sr w1 x0 x2 (by decide)
  |(show aP _ _=true;kernel_rfl)
  |exact⟨Zh,Zh⟩
  |exact Zh
  |done
abbrev Zr0:da:=ez (fun F f=>match f with|193=>dL F|130=>cN F|171=>cN F|28=>aj F|_=>fun _=>none) (by
 intro f;dsimp only;split;exact fo;exact lU;exact md;exact bE;exact de)
def fv:EC:=fun F=>fun
 |[.agg [.s 1 ls],.one (.v (.int Za k))]=>some (fun _=>TV ls,[.k (F.clB ls k)])
 |_=>none
theorem zf:ec 282 fv:=by
 intro _ _ _ h hp;dsimp only[fv,F0]at h;split at h<;>cases h
 rename_i ls k;refine cb Zr0 Tryz.func282 ?_
 exact agj
theorem DZ:ec 339 fv:=by
 intro _ _ _ h hp;dsimp only[fv,F0]at h;split at h<;>cases h
 rename_i ls k;refine cb Zr0 Tryz.func339 ?_
 exact agj
abbrev Zr1:da:=ez (fun F f=>match f with|282=>fv F|120=>cW F|130=>cN F|339=>fv F|101=>cW F|171=>cN F|_=>fun _=>none) (by
 intro f;dsimp only;split;exact zf;exact oK;exact lU;exact DZ;exact qF;exact md;exact de)
def eJ:EC:=fun F=>fun
 |[.agg [.s 1 ls],.one (.v (.int Za k)),.one (.v (.int Za a))]=>some (fun _=>Rw [.sl [tI]] ls/\ak ls<=1073741824/\K4 a,[.agg [.s 1 (F.cpLq ls k a)],.k (F.cpBq ls k a)])
 |_=>none
theorem wQ:ec 197 eJ:=by
 intro _ _ _ h hp;dsimp only[eJ,F0]at h;split at h<;>cases h
 rename_i ls k a;obtain⟨hw,hc,ha⟩:=hp;have N:=Ng hw (by omega);have ln:=au (es:=ls);refine cb Zr1 Tryz.func197 ?_
 exact af4
theorem xW:ec 278 eJ:=by
 intro _ _ _ h hp;dsimp only[eJ,F0]at h;split at h<;>cases h
 rename_i ls k a;obtain⟨hw,hc,ha⟩:=hp;have N:=Ng hw (by omega);have ln:=au (es:=ls);refine cb Zr1 Tryz.func278 ?_
 exact af4
abbrev Zr2:da:=ez (fun F f=>match f with|194=>eg F|121=>du F|128=>cG F|222=>eT F|277=>eg F|102=>du F|169=>cG F|_=>fun _=>none) (by
 intro f;dsimp only;split;exact uY;exact pV;exact jZ;exact hZ;exact D1;exact qG;exact j3;exact de)
def iy:EC:=fun F=>fun
 |[.agg [.s 1 b,.s 1 x],.one (.v (.int Za f)),.agg [.v (.int Za to),.v (.int Za a)]]=>some (fun _=>Rw [.sl [tI,tI]] b/\Rw [.sl [tI]] x/\ak b<=1073741824/\ak x<=1073741824/\K4 to/\K4 a,[.agg [.s 1 (F.sdL b x f to a),.s 1 x],.k (F.sdB b x f to a)])
 |_=>none
theorem FC:ec 85 iy:=by
 intro _ _ _ h hp;dsimp only[iy,F0]at h;split at h<;>cases h
 rename_i b x f to a;obtain⟨wb,wx,kb,cx,ho,ha⟩:=hp;have N:=H8 wb wx kb cx;have lb:=au (es:=b);have lx:=au (es:=x);refine cb Zr2 Tryz.func85 ?_
 exact af3
theorem FE:ec 182 iy:=by
 intro _ _ _ h hp;dsimp only[iy,F0]at h;split at h<;>cases h
 rename_i b x f to a;obtain⟨wb,wx,kb,cx,ho,ha⟩:=hp;have N:=H8 wb wx kb cx;have lb:=au (es:=b);have lx:=au (es:=x);refine cb Zr2 Tryz.func182 ?_
 exact af3
abbrev Zr3:da:={
 Φ:=rz
 F0:=F0
 ct:=fun F f=>match f with|137=>eB F|197=>eJ F|176=>dI F|278=>eJ F|_=>fun _=>none
 hc:=(by
  intro f;dsimp only;split;exact gx;exact wQ;exact j4;exact xW;exact de)
 pt:=fun F f=>match f with|43=>some (dQ F)|106=>some (dQ F)|_=>none
 hp:=(by
  intro f mk h;dsimp only at h;split at h<;>cases h
  exact tq;exact Ai)}
def fw:EP:=fun F=>fun
 |[.mp hl_,.one (.v (.int Za t)),.one (.v (.int Za ad))]=>hM hl_ fun a0 a1 a2 a3 a4 a5 a6 a7 a8 a9 aA aB aC aD aE aF aG aH aI aJ aK aL aM aN=>(fun _=>o6 a0 a1 a2 a4 a5 a6 a7 a8 a9 aA aB aD aL/\kerOk a0 a1 a2 a3 a4=true/\a3≠100000/\a5.length<=65/\uM a6/\(∃ i,rV a6 ad i)/\0<=t/\t<a9.length,[(hpM (F.rcC aI aJ aK a0 a1 a2 a5 a6 a9 t ad) (F.rcU aI aJ aK a0 a1 a2 a5 a6 a9 t ad) (F.rcE aI aJ aK a0 a1 a2 a5 a6 a9 t ad) a3 a4 (F.rcF aI aJ aK a0 a1 a2 a5 a6 a9 t ad) (F.rcS aI aJ aK a0 a1 a2 a5 a6 a9 t ad) a7 a8 (F.rcD a6 a9 t ad) aA aB aC aD aE aF aG aH aI aJ aK aL aM aN)],[])
 |_=>none
theorem zk:ep 87 fw:=by
 intro _ _ _ _ h hp;dsimp only[fw,F0,hM]at h;split at h;rotate_left;cases h;split at h<;>cases h
 rename_i t ad _ a0 a1 a2 a3 a4 a5 a6 a7 a8 a9 aA aB aC aD aE aF aG aH aI aJ aK aL aM aN;obtain⟨hp,hk,hn,h5,g,⟨ix,v⟩,t0,t1⟩:=hp;have l6:=au (es:=a6);have c6:=hp.c6;have c9:=hp.c9;have dn:=AS (L:=a7) g v;have vi:=vF g v;have fs:=jy g v;have vl:=v.l;have x0:(0:Int)<=ix:=(by omega);have x1:(ix:Int)<a6.length:=(by omega);have wc:=Bg hp.r9 t0 t1;have gl:=jT (es:=a9) (i:=t) (j:=0);refine pb Zr3 Tryz.func87 ?_
 intro O r os F hO hr hos hF;cbv
 repeat' first|apply Zb|(apply bF<;>intro hb<;>cbv)
 all_goals((try subst hos);subst hO hr hF;(try simp only[nc]at*);(try simp only[ah,SS,sa,az]at*);(try simp only[jm]at*);(try simp only[dn.1]at*);(try simp only[dn.2.1,dn.2.2]at*))
 all_goals exact af5
theorem tQ:ep 186 fw:=by
 intro _ _ _ _ h hp;dsimp only[fw,F0,hM]at h;split at h;rotate_left;cases h;split at h<;>cases h
 rename_i t ad _ a0 a1 a2 a3 a4 a5 a6 a7 a8 a9 aA aB aC aD aE aF aG aH aI aJ aK aL aM aN;obtain⟨hp,hk,hn,h5,g,⟨ix,v⟩,t0,t1⟩:=hp;have l6:=au (es:=a6);have c6:=hp.c6;have c9:=hp.c9;have dn:=AS (L:=a7) g v;have vi:=vF g v;have fs:=jy g v;have vl:=v.l;have x0:(0:Int)<=ix:=(by omega);have x1:(ix:Int)<a6.length:=(by omega);have wc:=Bg hp.r9 t0 t1;have gl:=jT (es:=a9) (i:=t) (j:=0);have e1:bO .quo Za ad 16=ad/16:=sv (by omega) (by omega) (by omega);refine pb Zr3 Tryz.func186 ?_
 intro O r os F hO hr hos hF;cbv
 repeat' first|apply Zb|(apply bF<;>intro hb<;>cbv)
 all_goals((try subst hos);subst hO hr hF;(try simp only[nc]at*);(try simp only[ah,SS,sa,az]at*);(try simp only[jm,e1]at*);(try simp only[fs.2.1]at*))
 all_goals exact af5
end Go.V