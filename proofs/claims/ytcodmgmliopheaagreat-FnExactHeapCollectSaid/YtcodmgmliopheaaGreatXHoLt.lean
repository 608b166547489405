/- Contracts. -/
import Derived.Test.YtcodmgmliopheaaGreatXHoKt
import Derived.Test.YtcodmgmliopheaaGreatXHoDt
set_option linter.all false
open Go
open And renaming intro->By
open True renaming intro->ac2
namespace Go.V
open Go Go.Proofs
set_option maxRecDepth 1000000
set_option maxHeartbeats 8000000
abbrev Zl0 :cW:={
 Φ:=qj
 F0:=F0
 ct:=fun F f=>match f with|216=>fv F|217=>eP F|218=>qL F|146=>dF F|318=>j3 F|319=>eP F|320=>oq F|_=>fun _=>none
 hc:=(by
  intro f;dsimp only;split;exact iH;exact xm;exact FP;exact jT;exact sk;exact ye;exact Cu;exact cX)
 pt:=fun F f=>match f with|219=>some (eQ F)|321=>some (eQ F)|_=>none
 hp:=(by
  intro f mk h;dsimp only at h;split at h<;>cases h
  exact xq;exact Ag)}
def bZ :EP:=fun F=>fun
 |[.mp hl_,.one (.v (.int .i64 ad))]=>hM hl_ fun a0 a1 a2 a3 a4 a5 a6 a7 a8 a9 aA aB aC aD aE aF aG aH aI aJ aK aL aM aN=>(fun _=>rT a0 a1 a2 a4 a5 a6 a7 a8 a9 aA aB aD aL/\kerOk a0 a1 a2 a3 a4=true/\a3≠100000/\a5.length<=65/\ta a6/\(∃ i,qo a6 ad i),[(Wu (F.fzC aI aJ aK a0 a1 a2 a5 a6 ad) (F.fzU aI aJ aK a0 a1 a2 a5 a6 ad) (F.fzE aI aJ aK a0 a1 a2 a5 a6 ad) a3 a4 (F.fzF aI aJ aK a0 a1 a2 a5 a6 ad) (F.fzS aI aJ aK a0 a1 a2 a5 a6 ad) a7 a8 a9 aA aB aC aD aE aF aG aH aI aJ aK aL aM aN)],[])
 |_=>none
theorem iI :ep 93 bZ:=by
 intro _ _ _ _ h hp;dsimp only[bZ,F0,hM]at h;split at h;rotate_left;cases h;split at h<;>cases h
 rename_i ad _ a0 a1 a2 a3 a4 a5 a6 a7 a8 a9 aA aB aC aD aE aF aG aH aI aJ aK aL aM aN;obtain⟨hp,hk,hn,h5,g,ix,v⟩:=hp;have l6:=av (es:=a6);have c6:=hp.c6;have dn:=EQ (L:=a7) g v;have vi:=A0 g v;have fs:=jn g v;have vl:=v.l;have up:=Ry hp.r6 g v;have pg:=Eo g v;have pl:=pg.2;have w1:=L9 hp.r6 g v;have x0:(0:Int)<=ix:=(by omega);have x1:(ix:Int)<a6.length:=(by omega);have x2:(ix:Int)<(jh a6 ad).length:=(by omega);refine pb Zl0 Tryz.func93 ?_
 intro O r os F hO hr hos hF;cbv
 repeat' first|apply By|(apply bD<;>intro hb<;>cbv)
 all_goals((try subst hos);subst hO hr hF;(try simp only[nc]at*);(try simp only[ah,SS,sa,az]at*);(try simp only[dn.1]at*);(try simp only[dn.2.1,dn.2.2]at*);(try simp only[ng (l:=a6) (sz:=3) (j:=0) (i:=ix) x0,ng (l:=a6) (sz:=3) (j:=1) (i:=ix) x0,ng (l:=a6) (sz:=3) (j:=2) (i:=ix) x0]at*);(try simp only[show saS (ag a6 ix 0) (ag a6 ix 1) (ag a6 ix 2) ad=yN a6 ad ix from rfl]at*);(try simp only[up]at*);(try simp only[ng (l:=jh a6 ad) (sz:=3) (j:=0) (i:=ix) x0,ng (l:=jh a6 ad) (sz:=3) (j:=1) (i:=ix) x0,ng (l:=jh a6 ad) (sz:=3) (j:=2) (i:=ix) x0]at*))
 all_goals first
  | (show(_:List DV)=_
     first
      |done)
  | (show(_:List H)=_
     first
      |(exfalso;have q:(1:Int)≠1:=(by assumption);exact q rfl)
      |(have b:=Rt (me:=aI) (kp:=aJ) (mv:=aK) g v (by assumption);have z:=PD (c:=a0) (u:=a1) (e:=a2) (f:=a5) b;rw[z.1,z.2.1,z.2.2.1,z.2.2.2.1,z.2.2.2.2];exact rfl)
      |(have b:=Ru (me:=aI) (kp:=aJ) (mv:=aK) g v (by assumption);have z:=PD (c:=a0) (u:=a1) (e:=a2) (f:=a5) b;rw[z.1,z.2.1,z.2.2.1,z.2.2.2.1,z.2.2.2.2];exact rfl)
      |(have b:=Rv (me:=aI) (kp:=aJ) (mv:=aK) g v (by assumption) (by assumption);have z:=XM (c:=a0) (u:=a1) (e:=a2) (f:=a5) g v b;rw[z.1,z.2.1,z.2.2.1,z.2.2.2.1,z.2.2.2.2];exact rfl)
      |done)
  |omega
  |exact gp
  |exact⟨hp.r6,hp.r7⟩
  |exact⟨RU hp g v,hk,hn,by omega,by omega,by omega,by omega,by omega⟩
  |exact Gs hp.r6 x0 x1
  |exact Td hp.r6 x0 x1
  |exact Gs w1 x0 x2
  |exact Dh hp.r6 x0 x1 (by decide)
  |exact Dh w1 x0 x2 (by decide)
  |(show aP _ _=true;kernel_rfl)
  |exact⟨ac2,ac2⟩
  |exact ac2
  |done
theorem lZ :ep 214 bZ:=by
 intro _ _ _ _ h hp;dsimp only[bZ,F0,hM]at h;split at h;rotate_left;cases h;split at h<;>cases h
 rename_i ad _ a0 a1 a2 a3 a4 a5 a6 a7 a8 a9 aA aB aC aD aE aF aG aH aI aJ aK aL aM aN;obtain⟨hp,hk,hn,h5,g,ix,v⟩:=hp;have l6:=av (es:=a6);have c6:=hp.c6;have dn:=EQ (L:=a7) g v;have vi:=A0 g v;have fs:=jn g v;have vl:=v.l;have up:=Ry hp.r6 g v;have pg:=Eo g v;have pl:=pg.2;have w1:=L9 hp.r6 g v;have x0:(0:Int)<=ix:=(by omega);have x1:(ix:Int)<a6.length:=(by omega);have x2:(ix:Int)<(jh a6 ad).length:=(by omega);have e1:bR .quo .i64 ad 16=ad/16:=Bg (by omega) (by omega) (by omega);refine pb Zl0 Tryz.func214 ?_
 intro O r os F hO hr hos hF;cbv
 repeat' first|apply By|(apply bD<;>intro hb<;>cbv)
 all_goals((try subst hos);subst hO hr hF;(try simp only[nc]at*);(try simp only[ah,SS,sa,az]at*);(try simp only[e1]at*);(try simp only[fs.2.1]at*);(try simp only[show saS (ag a6 ix 0) (ag a6 ix 1) (ag a6 ix 2) ad=yN a6 ad ix from rfl]at*);(try simp only[ng (l:=a6) (sz:=3) (j:=0) (i:=ix) x0,ng (l:=a6) (sz:=3) (j:=1) (i:=ix) x0,ng (l:=a6) (sz:=3) (j:=2) (i:=ix) x0]at*);(try simp only[show saS (ag a6 ix 0) (ag a6 ix 1) (ag a6 ix 2) ad=yN a6 ad ix from rfl]at*);(try simp only[up]at*);(try simp only[ng (l:=jh a6 ad) (sz:=3) (j:=0) (i:=ix) x0,ng (l:=jh a6 ad) (sz:=3) (j:=1) (i:=ix) x0,ng (l:=jh a6 ad) (sz:=3) (j:=2) (i:=ix) x0]at*))
 all_goals first
  | (show(_:List DV)=_
     first
      |done)
  | (show(_:List H)=_
     first
      |(exfalso;have q:(1:Int)≠1:=(by assumption);exact q rfl)
      |(have b:=Rt (me:=aI) (kp:=aJ) (mv:=aK) g v (by assumption);have z:=PD (c:=a0) (u:=a1) (e:=a2) (f:=a5) b;rw[z.1,z.2.1,z.2.2.1,z.2.2.2.1,z.2.2.2.2];exact rfl)
      |(have b:=Ru (me:=aI) (kp:=aJ) (mv:=aK) g v (by assumption);have z:=PD (c:=a0) (u:=a1) (e:=a2) (f:=a5) b;rw[z.1,z.2.1,z.2.2.1,z.2.2.2.1,z.2.2.2.2];exact rfl)
      |(have b:=Rv (me:=aI) (kp:=aJ) (mv:=aK) g v (by assumption) (by assumption);have z:=XM (c:=a0) (u:=a1) (e:=a2) (f:=a5) g v b;rw[z.1,z.2.1,z.2.2.1,z.2.2.2.1,z.2.2.2.2];exact rfl)
      |done)
  |omega
  |exact gp
  |exact⟨hp.r6,by omega⟩
  |exact⟨by omega,by omega⟩
  |exact⟨RU hp g v,hk,hn,by omega,by omega,by omega,by omega,by omega⟩
  |exact Gs hp.r6 x0 x1
  |exact Td hp.r6 x0 x1
  |exact Gs w1 x0 x2
  |exact Dh hp.r6 x0 x1 (by decide)
  |exact Dh w1 x0 x2 (by decide)
  |(show aP _ _=true;kernel_rfl)
  |exact⟨ac2,ac2⟩
  |exact ac2
  |done
abbrev Zl1 :cW:={
 Φ:=qj
 F0:=F0
 ct:=fun F f=>match f with|42=>ff F|102=>fu F|89=>aj F|53=>cE F|55=>ff F|91=>aj F|92=>dQ F|41=>cE F|213=>dQ F|_=>fun _=>none
 hc:=(by
  intro f;dsimp only;split;exact Cp;exact Cr;exact bC;exact ko;exact rY;exact bu;exact tp;exact lY;exact tQ;exact cX)
 pt:=fun F f=>match f with|93=>some (bZ F)|214=>some (bZ F)|_=>none
 hp:=(by
  intro f mk h;dsimp only at h;split at h<;>cases h
  exact iI;exact lZ)}
def eU :EC:=fun F=>fun
 |[.agg hl_,.one (.v (.int .i64 t))]=>hL hl_ fun a0 a1 a2 a3 a4 a5 a6 a7 a8 a9 aA aB aC aD aE aF aG aH aI aJ aK aL aM aN=>(fun _=>rT a0 a1 a2 a4 a5 a6 a7 a8 a9 aA aB aD aL,[.k (F.t0B (F.hpI a0 a1 a2 a3 a4 a5 a6 a7 a8 a9 aA aB aC aD aE aF aG aH aI aJ aK aL aM aN) a3 t a9)])
 |_=>none
theorem tU :ec 88 eU:=by
 intro _ _ _ h hp;dsimp only[eU,F0,hL]at h;split at h;rotate_left;cases h;split at h<;>cases h
 rename_i t _ a0 a1 a2 a3 a4 a5 a6 a7 a8 a9 aA aB aC aD aE aF aG aH aI aJ aK aL aM aN;have l9:=av (es:=a9);have c9:=hp.c9;have e1:bR .sub .i64 (a9.length:Int) 1=a9.length-1:=dD (by omega);refine cb Zl1 Tryz.func88 ?_
 intro O r F hO hr hF;cbv
 repeat' first|apply By|(apply bD<;>intro hb<;>cbv)
 all_goals(subst hO hr hF;(try simp only[nc]at*);(try simp only[ah,SS,sa,az]at*);(try simp only[e1]at*);(try have hk:hpI a0 a1 a2 a3 a4 a5 a6 a7 a8 a9 aA aB aC aD aE aF aG aH aI aJ aK aL aM aN=true:=(by assumption));(try have kk:=(uj hk).k))
 all_goals first
  | (show(_:List DV)=_
     first
      |exact ai (acM (by assumption)).symm
      |exact ai (acO (W9 (by assumption) kk)).symm
      |exact ai (acP hk (Rc (by assumption)).1)
      |done)
  | (show(_:List H)=_
     first
      |done)
  |omega
  |exact gp
  |exact hp
  |exact hp.hp
  |exact⟨hp.r0,hp.r1,hp.r2,hp.r4⟩
  |(show aP _ _=true;kernel_rfl)
  |exact⟨ac2,ac2⟩
  |exact ac2
  |done
end Go.V