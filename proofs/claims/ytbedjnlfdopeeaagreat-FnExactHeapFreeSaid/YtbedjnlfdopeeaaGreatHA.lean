/- Plain facts. -/
import Derived.Test.YtbedjnlfdopeeaaGreatVE
set_option linter.all false
open Go
open Bool renaming and_eq_true->Zc,and_false->Yb
open Int renaming toNat_of_nonneg->Zt,toNat_natCast->Zy,le_refl->Yj
open IntKind renaming has->VE,wrap->YO,bits->WN,signed->WO,i64->Za
open IntWalk renaming i64_in->Xt
open List renaming range->Zq,mem_range->Ye,length_append->Ze,mem_cons->Zl,length_cons->Zn,getD_eq_getElem?_getD->Zo,getElem?_eq_getElem->Zv,take->Ya,drop->Yp,mem_append->Zf,find?_range_eq_some->Wc,find?_range_eq_none->WM,append_assoc->Zm,nodup_append->Zx,nodup_nil->ZJ
open Nat renaming le_refl->Zd
namespace Go.V
theorem vD {n:Int}(h:VE Za n): -9223372036854775808<=n/\n<=9223372036854775807:=h
theorem db {i:Int}(h0:0<=i)(h1:i<9223372036854775807):bO .add Za i 1=i+1:=bz (by omega)
def inR (x a b:Int):Bool:=decide (a<=x)&&decide (x<=b)
theorem bH {x a b:Int}:inR x a b=true↔a<=x/\x<=b:=by simp[inR]
theorem AJ {x a b:Int}:inR x a b=false↔x<a\/b<x:=by
 cases h:inR x a b
 ·simp only[true_iff];unfold inR at h;simp only[Bool.and_eq_false_iff,decide_eq_false_iff_not]at h;omega
 ·rw[bH]at h;constructor
  ·intro q;cases q
  ·omega
def cI (p:Int->Bool)(n:Nat):Bool:=(Zq n).all fun j=>p (j:Int)
def upto (p:Int->Bool)(i:Int):Prop:=∀ j:Int,0<=j->j<i->p j=true
theorem bK {p:Int->Bool}:upto p 0:=fun j h0 h1=>absurd h1 (by omega)
theorem aZ {p:Int->Bool}{i:Int}(h:upto p i)(hp:p i=true):upto p (i+1):=fun j h0 h1=>by
 by_cases q:j=i
 ·subst q;exact hp
 ·exact h j h0 (by omega)
theorem dh {p:Int->Bool}{n:Nat}:cI p n=true↔upto p n:=by
 simp only[cI,List.all_eq_true,Ye];exact⟨fun h j h0 h1=>by have:=h j.toNat (by omega);rwa [Zt h0]at this,fun h x hx=>h x (by omega) (by omega)⟩
theorem bN {p:Int->Bool}{n:Nat}{i:Int}(h:upto p i)(hi:(n:Int)<=i):cI p n=true:=dh.2 fun j h0 h1=>h j h0 (by omega)
theorem bX {p:Int->Bool}{n:Nat}{i:Int}(h0:0<=i)(h:i<n)(hp:p i=false):cI p n=false:=by
 cases q:cI p n
 ·rfl
 ·rw[dh.1 q i h0 h]at hp;cases hp
theorem gW {a b:Bool}(h:a=true↔b=true):a=b:=by cases a<;>cases b<;>simp_all
theorem ai {a b:Bool}(h:a=b):[DV.k a]=[DV.k b]:=by rw[h]
def nN (cs us:aa)(i k:Int):Bool:=inR (ab (aw cs i 0) k 0) 0 999&&(ua us i 0||decide (ab (aw cs i 0) k 0=0))
def il (cs us:aa)(i:Int):Bool:=decide ((aw cs i 0).length=16)&&cI (nN cs us i) 16
def framesOk (cs us:aa):Bool:=inR cs.length 1 32&&decide (us.length=cs.length)&&cI (il cs us) cs.length
def qO (es:aa)(fr i:Int):Bool:=inR (ab es i 0) 0 2&&decide (ab es i 0=0->ab es i 1=0)&&decide (0<ab es i 0->0<=ab es i 1/\ab es i 1<fr)
def tableOk (es:aa)(fr:Int):Bool:=cI (qO es fr) es.length&&inR es.length 1 32
def yk (es:aa)(f:Int):Nat->aa
 |0=>[]
 |n+1=>if ab es n 0≠0/\ab es n 1=f then yk es f n++[[.i n]]else yk es f n
def pagesOn (es:aa)(f:Int):aa:=yk es f es.length
theorem EI {es:aa}{f:Int}:∀ {n:Nat},(yk es f n).length<=n
 |0=>Nat.zero_le _
 | n+1=>by
   have:=EI (es:=es) (f:=f) (n:=n);unfold yk;split
   ·rw[Ze];simp;omega
   ·omega
theorem JP {es:aa}{f:Int}{n:Nat}(h0:ab es n 0≠0)(h1:ab es n 1=f):yk es f (n+1)=yk es f n++[[.i n]]:=by rw[yk,VW ⟨h0,h1⟩]
theorem Nz {es:aa}{f:Int}{n:Nat}(h:ab es n 0=0\/ab es n 1≠f):yk es f (n+1)=yk es f n:=by rw[yk,VX (by rintro⟨a,b⟩;rcases h with q|q;exact a q;exact q b)]
theorem P9 {es:aa}{f i:Int}(hi:0<=i)(h0:ab es i 0≠0)(h1:ab es i 1=f):yk es f (i+1).toNat=yk es f i.toNat++[[.i i]]:=by
 have e:((i.toNat:Nat):Int)=i:=Zt hi;rw[show(i+1).toNat=i.toNat+1 from by omega,JP (by rw[e];exact h0) (by rw[e];exact h1),e]
theorem Ny {es:aa}{f i:Int}(hi:0<=i)(h:ab es i 0=0\/ab es i 1≠f):yk es f (i+1).toNat=yk es f i.toNat:=by
 have e:((i.toNat:Nat):Int)=i:=Zt hi;rw[show(i+1).toNat=i.toNat+1 from by omega,Nz (by rw[e];exact h)]
theorem Dc {es:aa}{f:Int}:(pagesOn es f).length<=es.length:=EI
def gX (es:aa)(f:Int):Bool:=decide (0<(pagesOn es f).length)
theorem Ev {es:aa}{f:Int}:gX es f=true↔0<(pagesOn es f).length:=by simp[gX]
theorem aaM {cs us:aa}(h:inR cs.length 1 32=false):framesOk cs us=false:=by unfold framesOk;rw[h];rfl
theorem aaN {cs us:aa}(h:us.length≠cs.length):framesOk cs us=false:=by unfold framesOk;rw[VU h];simp
theorem aaO {cs us:aa}{i:Int}(h0:0<=i)(h1:i<cs.length)(h:(aw cs i 0).length≠16):framesOk cs us=false:=by
 unfold framesOk;rw[bX h0 h1 (by unfold il;rw[VU h];rfl)];simp
theorem L6 {cs us:aa}{i k:Int}(h0:0<=i)(h1:i<cs.length)(k0:0<=k)(k1:k<16)(h:inR (ab (aw cs i 0) k 0) 0 999=false\/ua us i 0=false/\ab (aw cs i 0) k 0≠0):framesOk cs us=false:=by
 unfold framesOk;rw[bX h0 h1 (by unfold il;rw[bX k0 (by simpa using k1) (by unfold nN;rcases h with q|⟨q,q'⟩;rw[q];rfl;rw[q,VU q'];simp)];simp)];simp
theorem L8 {cs us:aa}{i:Int}(h1:inR cs.length 1 32=true)(h2:us.length=cs.length)(h:upto (il cs us) i)(hi:(cs.length:Int)<=i):framesOk cs us=true:=by
 unfold framesOk;rw[h1,VT h2,bN h hi];rfl
theorem RI {cs us:aa}{i k:Int}(hl:(aw cs i 0).length=16)(h:upto (nN cs us i) k)(hk:16<=k):il cs us i=true:=by
 unfold il;rw[VT hl,bN h (by simpa using hk)];rfl
theorem Rm {cs us:aa}{i k:Int}(h:inR (ab (aw cs i 0) k 0) 0 999=true)(h':ua us i 0=true\/ab (aw cs i 0) k 0=0):nN cs us i k=true:=by
 unfold nN;rw[h];rcases h' with q|q
 ·rw[q];rfl
 ·rw[VT q];simp
theorem Iq {k:Nat}{a b:aa}(h:a=b):[DV.one (.s k a)]=[DV.one (.s k b)]:=by rw[h]
theorem afV {es:aa}{n i:Int}(h0:0<=i)(h1:i<es.length)(h:¬ (0<=ab es i 0/\ab es i 0<=2/\(ab es i 0=0->ab es i 1=0)/\(0<ab es i 0->0<=ab es i 1/\ab es i 1<n))):tableOk es n=false:=by
 unfold tableOk;rw[bX h0 h1];rfl;cases q:qO es n i;rfl
 ·refine absurd ?_ h;unfold qO at q;simp only[Zc,VV,bH]at q;exact⟨q.1.1.1,q.1.1.2,q.1.2,q.2⟩
theorem TD {es:aa}{n i:Int}(h:0<=ab es i 0/\ab es i 0<=2/\(ab es i 0=0->ab es i 1=0)/\(0<ab es i 0->0<=ab es i 1/\ab es i 1<n)):qO es n i=true:=by
 unfold qO;simp only[Zc,VV,bH];exact⟨⟨⟨h.1,h.2.1⟩,h.2.2.1⟩,h.2.2.2⟩
theorem Og {es:aa}{n i:Int}(h:upto (qO es n) i)(hi:(es.length:Int)<=i):tableOk es n=inR es.length 1 32:=by unfold tableOk;rw[bN h hi];rfl
theorem Bo {es:aa}{n:Int}(h:tableOk es n=true):1<=es.length/\es.length<=32:=by
 unfold tableOk at h;simp only[Zc,bH]at h;omega
theorem afU {es:aa}{n i:Int}(h:tableOk es n=true)(h0:0<=i)(h1:i<es.length):0<=ab es i 0/\ab es i 0<=2/\(ab es i 0=0->ab es i 1=0)/\(0<ab es i 0->0<=ab es i 1/\ab es i 1<n):=by
 unfold tableOk at h;simp only[Zc]at h;have q:=dh.1 h.1 i h0 h1;unfold qO at q;simp only[Zc,VV,bH]at q;exact⟨q.1.1.1,q.1.1.2,q.1.2,q.2⟩
theorem Ax {cs us:aa}(h:framesOk cs us=true):us.length=cs.length/\1<=cs.length/\cs.length<=32:=by
 unfold framesOk at h;simp only[Zc,VV,bH]at h;omega
theorem ac2 {cs us:aa}{i:Int}(h:framesOk cs us=true)(h0:0<=i)(h1:i<cs.length):(aw cs i 0).length=16:=by
 unfold framesOk at h;simp only[Zc,VV,bH]at h;have q:=dh.1 h.2 i h0 h1;unfold il at q;simp only[Zc,VV]at q;exact q.1
end Go.V
namespace Go.V
theorem sv {a n:Int}(h0:0<=a)(h1:a<=9223372036854775807)(hn:0<n):bO .quo Za a n=a/n:=by
 show YO Za (a.tdiv n)=_;rw[Int.tdiv_eq_ediv_of_nonneg h0];have h2:0<=a/n:=Int.ediv_nonneg h0 (by omega);have h3:a/n<=a:=Int.ediv_le_self _ h0;exact Xt _ (by omega)
theorem De {a n:Int}(h0:0<=a):bO .rem Za a n=a%n:=Int.tmod_eq_emod_of_nonneg h0
theorem Jy {a:aa}{f:Int}:dA .gtr (pagesOn a f).length 0=gX a f:=gW (by rw[Ev];simp only[SS];omega)
theorem PY {a:aa}{f:Int}(h:(pagesOn a f).length=0):gX a f=false:=by unfold gX;rw[h];rfl
theorem Q5 {a b a' b':Int}(h:a=a')(h':b=b'):[DV.agg [.i a,.i b]]=[DV.agg [.i a',.i b']]:=by rw[h,h']
theorem As {a b a' b':Int}(h:a=a')(h':b=b'):[DV.j a,DV.j b]=[DV.j a',DV.j b']:=by rw[h,h']
theorem cq {a b:Int}(h:a=b):[DV.j a]=[DV.j b]:=by rw[h]
def peM (es:aa)(p:Int):Int:=if 0<=p/\p<es.length then ab es p 0 else 0
def peF (es:aa)(p:Int):Int:=if 0<=p/\p<es.length then ab es p 1 else 0
theorem Nw {es:aa}{p:Int}(h:0<=p/\p<es.length):peM es p=ab es p 0/\peF es p=ab es p 1:=by unfold peM peF;rw[VW h,VW h];exact⟨rfl,rfl⟩
theorem JN {es:aa}{p:Int}(h:¬ (0<=p/\p<es.length)):peM es p=0/\peF es p=0:=by unfold peM peF;rw[VX h,VX h];exact⟨rfl,rfl⟩
def leM (es:aa)(a:Int):Int:=if a<0 then 0 else peM es (a/16)
def leF (es:aa)(a:Int):Int:=if a<0 then 0 else peF es (a/16)
end Go.V
namespace Go.V
theorem jr {fs:List Ty}{es:aa}{i:Int}(h:Rw [.sl fs] es)(h0:0<=i)(h1:i<es.length):es.take (i+1).toNat=es.take i.toNat++[[.s fs.length (aw es i 0)]]:=by
 rw[show(i+1).toNat=i.toNat+1 from by omega,fI (d:=[]) (show i.toNat<es.length by omega)];have e:=h.eta h0 h1;rw[e];rfl
theorem rP {fs:List Ty}{es:aa}{i:Int}(h:Rw [.sl fs] es)(h0:0<=i)(h1:i<es.length):ak (aw es i 0)+es.length<=ak es:=by
 have e:=h.eta h0 h1;have h2:=dz (es:=es) (n:=i.toNat) (by omega);have h3:=bS (es:=es) (n:=i.toNat+1);rw[e]at h2;have h4:cU (nh ah es i 0 (zR [Ty.sl fs]))=ak (aw es i 0):=by
  show cU [.s fs.length (aw es i 0)]=_;simp only[cU,fR,ak];omega
 rw[h4]at h2;show _<=es.length+bL es;omega
theorem au {es:aa}:es.length<=ak es:=Nat.le_add_right _ _
theorem jq {es:aa}{i:Int}(h:(es.length:Int)<=i):es.take i.toNat=es:=List.take_of_length_le (by omega)
def oy (us es:aa)(i:Int):Bool:=ua us i 0==gX es i
def machOk (cs us es:aa):Bool:=framesOk cs us&&tableOk es cs.length&&cI (oy us es) cs.length
theorem JC {cs us es:aa}(h:framesOk cs us=false\/tableOk es cs.length=false):machOk cs us es=false:=by
 unfold machOk;rcases h with h|h<;>rw[h]<;>simp
theorem abw {cs us es:aa}(hf:framesOk cs us=true)(h:tableOk es us.length=false):machOk cs us es=false:=by
 rw[(Ax hf).1]at h;exact JC (.inr h)
theorem M1 {cs us es:aa}{i:Int}(h0:0<=i)(h1:i<cs.length)(h:ua us i 0≠gX es i):machOk cs us es=false:=by
 unfold machOk;rw[bX h0 h1 (by unfold oy;simpa using h)];simp
theorem M0 {us es:aa}{i:Int}(h:ua us i 0=gX es i):oy us es i=true:=by unfold oy;simpa using h
theorem H2 {cs us es:aa}{i:Int}(h:framesOk cs us=true)(h2:tableOk es us.length=true)(hu:upto (oy us es) i)(hi:(us.length:Int)<=i):machOk cs us es=true:=by
 rw[(Ax h).1]at h2 hi;unfold machOk;rw[h,h2,bN hu hi];rfl
theorem aem {cs us es:aa}(q:machOk cs us es=true):framesOk cs us=true/\tableOk es cs.length=true/\∀ i:Int,0<=i->i<cs.length->ua us i 0=gX es i:=by
 unfold machOk at q;simp only[Zc]at q;refine⟨q.1.1,q.1.2,fun i h0 h1=>?_⟩;have:=dh.1 q.2 i h0 h1;unfold oy at this;simpa using this
def Gn:List aa->Int->List aa
 |[],_=>[]
 |r::rs,k=>dY r k::Gn rs (be [r] k)
theorem AP:∀ {rs:List aa} {k k':Int},be (Gn rs k) k'=be rs k'
 |[],_,_=>rfl
 | r::rs,k,k'=>by
   show be (Gn rs (be [r] k)) (dO (dO r k).1 k').2=be rs (dO r k').2;rw[fi];exact AP
theorem MY {rs:List aa}(h:∀ r∈rs,(dO r 0).2<=(64*ak r:Nat))(hc:aQ rs<=1099511627776):be rs 1<=1152921504606846976:=MB h (by omega) hc
theorem gp:∀ {rs:List aa} {r:aa} {n:Nat},aQ rs<=n->r∈rs->ak r<=n
 | a::rs,r,n,h,hr=>by
   simp only[aQ]at h;rcases Zl.1 hr with rfl|q;omega;exact gp (rs:=rs) (by omega) q
end Go.V
namespace Go.V
theorem CF:∀ {fs:List Ty} {e:ay},cp fs e->e.length=fs.length
 |[],[],_=>rfl
 |[],_::_,h=>h.elim
 |_::_,[],h=>h.elim
 |_::fs,_::e,h=>by simp only[Zn];rw[CF h.2]
theorem Rw.wid {fs:List Ty}{es:aa}(h:Rw fs es){n:Nat}(hn:n<es.length):(es.getD n []).length=fs.length:=CF (h.at hn)
theorem CC:∀ {es:aa} {n:Nat} {e:ay},bL (es.set n e)<=bL es+cU e
 |[],_,_=>by simp[bL]
 |a::es,0,e=>by simp only[List.set_cons_zero,bL];omega
 | a::es,n+1,e=>by
   have:=CC (es:=es) (n:=n) (e:=e);simp only[List.set_cons_succ,bL];omega
theorem Ap {es:aa}{n:Nat}{e:ay}:ak (es.set n e)<=ak es+cU e:=by
 unfold ak;rw[List.length_set];have:=CC (es:=es) (n:=n) (e:=e);omega
end Go.V
namespace Go.V
def wL (cs:aa)(fr k v:Int):aa:=cs.set fr.toNat [.s 1 ((aw cs fr 0).set k.toNat [.i v])]
theorem ES {cs:aa}{fr:Int}(h:Rw [.sl [tI]] cs)(h0:0<=fr)(h1:fr<cs.length):cs.getD fr.toNat []=[.s 1 (aw cs fr 0)]:=h.eta h0 h1
theorem afX {cs:aa}{fr k v:Int}(h:Rw [.sl [tI]] cs)(h0:0<=fr)(h1:fr<cs.length)(k0:0<=k)(k1:k<(aw cs fr 0).length):rr (.s 1 cs) [(fr.toNat,0),(k.toNat,0)] [.i v]=wL cs fr k v:=by
 have hr:Rw [tI] (aw cs fr 0):=Rw.sub (fs:=[.sl [tI]]) h (by omega) rfl;have hw:=hr.wid (n:=k.toNat) (by omega);show cs.set fr.toNat ((cs.getD fr.toNat []).set 0 (mV ((cs.getD fr.toNat []).getD 0 .g) [(k.toNat,0)] [.i v]))=_;rw[ES h h0 h1];show cs.set fr.toNat [.s 1 ((aw cs fr 0).set k.toNat (((aw cs fr 0).getD k.toNat []).take 0++[.i v]++((aw cs fr 0).getD k.toNat []).drop (0+1)))]=_;have hw':((aw cs fr 0).getD k.toNat []).length=1:=hw;rw[List.take_zero,List.drop_of_length_le (by omega)];rfl
theorem RP {cs:aa}{fr k:Int}(h:Rw [.sl [tI]] cs)(h0:0<=fr)(h1:fr<cs.length)(k0:0<=k)(k1:k<(aw cs fr 0).length):∃ rec o',bV (.s 1 cs) [(fr.toNat,0),(k.toNat,0)]=some (rec,o')/\o'+1<=rec.length:=by
 have hr:Rw [tI] (aw cs fr 0):=Rw.sub (fs:=[.sl [tI]]) h (by omega) rfl;have hw:=hr.wid (n:=k.toNat) (by omega);refine⟨(aw cs fr 0).getD k.toNat [],0,?_,?_⟩
 ·have e:=ES h h0 h1;have e1:cs[fr.toNat]?=some [.s 1 (aw cs fr 0)]:=by
   rw[Zo,Zv (by omega)]at e;rw[Zv (by omega)];simpa using e
  show(match cs[fr.toNat]? with
   | some rec=>match rec[0]? with
     |some l=>bV l [(k.toNat,0)]
     |none=>none
   |none=>none)=_
  rw[e1];show(((aw cs fr 0)[k.toNat]?).map (·,0))=_;rw[Zo,Zv (by omega)];rfl
 ·rw[hw];exact Zd _
theorem jm {cs:aa}{fr:Int}:qp (.s 1 cs) [(fr.toNat,0)]=aw cs fr 0:=ux
theorem aad {cs:aa}{fr:Int}(h:Rw [.sl [tI]] cs)(h0:0<=fr)(h1:fr<cs.length):cs[fr.toNat]?=some [.s 1 (aw cs fr 0)]:=by
 have e:=ES h h0 h1;rw[Zo,Zv (by omega)]at e;rw[Zv (by omega)];simpa using e
theorem Eg {cs:aa}{fr:Int}(h:Rw [.sl [tI]] cs)(h0:0<=fr)(h1:fr<cs.length):∃ rec o,bV (.s 1 cs) [(fr.toNat,0)]=some (rec,o)/\o+[L.s 1 []].length<=rec.length/\Ya [L.s 1 []].length (Yp o rec)=mN ah (.s 1 cs) [(fr.toNat,0)] 0 [L.s 1 []]:=by
 refine⟨[.s 1 (aw cs fr 0)],0,?_,Zd _,?_⟩
 ·show(cs[fr.toNat]?).map (·,0)=_;rw[aad h h0 h1];rfl
 ·show[L.s 1 (aw cs fr 0)]=[L.s 1 (qp (.s 1 cs) [(fr.toNat,0)])];rw[jm]
theorem AC {cs:aa}{fr:Int}(h:Rw [.sl [tI]] cs)(h0:0<=fr)(h1:fr<cs.length):∃ es,gZ (.s 1 cs) [(fr.toNat,0)]=some (1,es):=by
 refine⟨aw cs fr 0,?_⟩;rw[yC (by omega),ES h h0 h1];rfl
theorem Oe {cs:aa}{fr k v:Int}(h:Rw [.sl [tI]] cs)(h0:0<=fr)(h1:fr<cs.length)(hv: -9223372036854775808<=v/\v<=9223372036854775807):Rw [.sl [tI]] (wL cs fr k v):=by
 have hr:Rw [tI] (aw cs fr 0):=Rw.sub (fs:=[.sl [tI]]) h (by omega) rfl;exact h.set (show cp [.sl [tI]] [.s 1 _]from⟨⟨rfl,hr.set (show cp [tI] [.i v]from⟨⟨rfl,hv⟩,trivial⟩) _⟩,trivial⟩) _
def smM (cs us es:aa)(a:Int):Int:=if machOk cs us es=true then leM es a else 0
def smF (cs us es:aa)(a:Int):Int:=if machOk cs us es=true then leF es a else 0
def clsSz (k:Int):Int:=if k=0 then 1 else if k=1 then 2 else if k=2 then 4 else if k=3 then 8 else 0
def clsOf (s:Int):Int:=if s<1 then-1 else if s<=1 then 0 else if s<=2 then 1 else if s<=4 then 2 else if s<=8 then 3 else-1
theorem acK {k:Int}(h:inR k 0 3=false):clsSz k=0:=by rw[AJ]at h;unfold clsSz;repeat' split<;>omega
theorem Ro {k:Int}(h:inR k 0 3=true):Qt .shl Za 1 k=clsSz k:=by
 rw[bH]at h;rcases(show k=0\/k=1\/k=2\/k=3 by omega)with rfl|rfl|rfl|rfl<;>decide
theorem Rq {k:Int}(h:inR k 0 3=true):wrI .u64 k=k:=by
 rw[bH]at h;rcases(show k=0\/k=1\/k=2\/k=3 by omega)with rfl|rfl|rfl|rfl<;>decide
theorem Rp {k s:Int}(h0:0<=k/\k<=3)(h:clsSz k<s)(hs:1<=s/\s<=8):k+1<=3:=by
 rcases(show k=0\/k=1\/k=2\/k=3 by omega)with rfl|rfl|rfl|rfl<;>simp[clsSz]at h<;>omega
theorem acH {s:Int}(h:s<1\/8<s):clsOf s= -1:=by unfold clsOf;repeat' split<;>omega
theorem aan {k s:Int}(h0:0<=k/\k<=3)(h:s<=clsSz k)(hs:1<=s/\s<=8)(hp:k=0\/clsSz (k-1)<s):clsOf s=k:=by
 rcases(show k=0\/k=1\/k=2\/k=3 by omega)with rfl|rfl|rfl|rfl<;>simp[clsSz]at h hp<;>unfold clsOf<;>repeat' split<;>omega
end Go.V
namespace Go.V
theorem Rn {s:Int}(h:0<=clsOf s):1<=s/\s<=clsSz (clsOf s)/\clsSz (clsOf s)<=8/\clsOf s<=3:=by
 unfold clsOf at h ⊢
 repeat' split at h
 all_goals simp_all [clsSz]
 all_goals omega
theorem vK {l:aa}{i:Int}(h0:0<=i):SL (.s 1 l) [(i.toNat,0)]=ab l i 0:=by
 rw[Ig];unfold ab;rw[Zy]
end Go.V
namespace Go.V
theorem yu {fs:List Ty}{cs:aa}{fr:Int}(h:Rw [.sl fs] cs)(h0:0<=fr)(h1:fr<cs.length):cs[fr.toNat]?=some [.s fs.length (aw cs fr 0)]:=by
 have e:cs.getD fr.toNat []=[.s fs.length (aw cs fr 0)]:=h.eta h0 h1;rw[Zo,Zv (by omega)]at e;rw[Zv (by omega)];simpa using e
theorem Mb {cs:aa}{fr:Int}(h:Rw [.sl [tI,tI]] cs)(h0:0<=fr)(h1:fr<cs.length):∃ rec o,bV (.s 1 cs) [(fr.toNat,0)]=some (rec,o)/\o+[L.s 2 []].length<=rec.length/\Ya [L.s 2 []].length (Yp o rec)=mN ah (.s 1 cs) [(fr.toNat,0)] 0 [L.s 2 []]:=by
 refine⟨[.s 2 (aw cs fr 0)],0,?_,Zd _,?_⟩
 ·show(cs[fr.toNat]?).map (·,0)=_;rw[yu h h0 h1];rfl
 ·show[L.s 2 (aw cs fr 0)]=[L.s 2 (qp (.s 1 cs) [(fr.toNat,0)])];rw[jm]
theorem Kz {cs:aa}{fr:Int}(h:Rw [.sl [tI,tI]] cs)(h0:0<=fr)(h1:fr<cs.length):∃ es,gZ (.s 1 cs) [(fr.toNat,0)]=some (2,es):=by
 refine⟨aw cs fr 0,?_⟩;unfold gZ;show(match(cs[fr.toNat]?).map (·,0)with
  | some (rec,o)=>match rec[o]? with
    |some (.s sz es)=>some (sz,es)
    |_=>none
  |none=>none)=_
 rw[yu h h0 h1];rfl
theorem EJ {es:aa}{f:Int}:∀ {n:Nat} {e:ay},e∈yk es f n->∃ k:Nat,k<n/\e=[.i k]
 |0,e,h=>by cases h
 | n+1,e,h=>by
   unfold yk at h;split at h
   ·rcases Zf.1 h with q|q
    ·obtain⟨k,hk,e⟩:=EJ q;exact⟨k,by omega,e⟩
    ·rw[List.mem_singleton]at q;exact⟨n,by omega,q⟩
   ·obtain⟨k,hk,e⟩:=EJ h;exact⟨k,by omega,e⟩
theorem Nt {es:aa}{f:Int}(h:es.length<=1099511627776):Rw [tI] (pagesOn es f):=by
 have hl:=Dc (es:=es) (f:=f);refine⟨by simp[maxLen];omega,fun e he=>?_⟩;obtain⟨k,hk,rfl⟩:=EJ he;exact⟨⟨rfl,(show-9223372036854775808<=(k:Int)/\(k:Int)<=9223372036854775807 by omega)⟩,trivial⟩
end Go.V
namespace Go.V
def dy (p:Int->Bool)(n:Nat):Int:=match(Zq n).find? (fun j:Nat=>p (j:Int))with
 |some j=>(j:Int)
 |none=> -1
def cZ (p:Int->Bool)(j:Int):Bool:= !p j
theorem ji {p:Int->Bool}{i:Int}(h:p i=false):cZ p i=true:=by unfold cZ;rw[h];rfl
theorem dM {p:Int->Bool}{n:Nat}{i:Int}(h:upto (cZ p) i)(h0:0<=i)(h1:i<n)(h2:p i=true):dy p n=i:=by
 have e:((i.toNat:Nat):Int)=i:=Zt h0;have:(Zq n).find? (fun j:Nat=>p (j:Int))=some i.toNat:=by
  rw[Wc];refine⟨by rw[e];exact h2,Ye.2 (by omega),fun j hj=>?_⟩;exact h j (by omega) (by omega)
 unfold dy;rw[this];exact e
theorem eY {p:Int->Bool}{n:Nat}{i:Int}(h:upto (cZ p) i)(h1:(n:Int)<=i):dy p n= -1:=by
 have:(Zq n).find? (fun j:Nat=>p (j:Int))=none:=by
  rw[WM];intro j hj;exact h j (by omega) (by omega)
 unfold dy;rw[this]
theorem t6 {p:Int->Bool}{n:Nat}:dy p n= -1\/0<=dy p n/\dy p n<n:=by
 unfold dy;split
 ·rename_i j h;rw[Wc]at h;have:=Ye.1 h.2.1;omega
 ·exact .inl rfl
def eqB (a b:Int):Bool:=decide (a=b)
theorem tW {a b:Int}(h:a=b):eqB a b=true:=VT h
theorem wn {a b:Int}(h:a≠b):eqB a b=false:=VU h
end Go.V
namespace Go.V
def afS (f:Int->Int):Nat->Int
 |0=>0
 |n+1=>bO .add Za (afS f n) (f n)
def szF (os:aa)(i:Int):Int:=ab os i 2
def lsI (os:aa):Int:=afS (szF os) os.length
def ue (os:aa)(a j:Int):Bool:=eqB (ab os j 1) a
def obI (os:aa)(a:Int):Int:=dy (ue os a) os.length
def isSp (ss:aa)(p j:Int):Bool:=eqB (ab ss j 0) p
def spI (ss:aa)(p:Int):Int:=dy (isSp ss p) ss.length
end Go.V
namespace Go.V
def y7 (x:Int):BitVec 64:=BitVec.ofInt 64 x
theorem Kl (x:BitVec 64):YO Za (x.toNat:Int)=x.toInt:=by
 have h:=x.isLt;rw[BitVec.toInt_eq_toNat_cond];simp only[YO,WN,WO,Bool.true_and,VV,show(64-1:Nat)=63 from rfl];split<;>split<;>omega
theorem aaf {x:BitVec 64}:y7 x.toInt=x:=BitVec.ofInt_toInt
def fpg (es:aa)(p:Int):aa:=if peM es p=0 then[]else pagesOn es (peF es p)
theorem L5 {es:aa}{p:Int}(h:peM es p=0):fpg es p=[]:=by unfold fpg;rw[VW h]
theorem Jf {es:aa}{p:Int}(h:peM es p≠0):fpg es p=pagesOn es (peF es p):=by unfold fpg;rw[VX h]
theorem aaL {es:aa}{p:Int}(h:es.length<=1099511627776):Rw [tI] (fpg es p)/\(fpg es p).length<=1099511627776:=by
 unfold fpg;split;exact⟨Rw.nil,by simp⟩;exact⟨Nt h,Nat.le_trans Dc h⟩
def R7 (l:aa)(x j:Int):Bool:=eqB x (ab l j 0)
def Ms (l:aa)(x:Int):Int:=dy (R7 l x) l.length
def hasB (l:aa)(x:Int):Bool:=decide (0<=Ms l x)
theorem Jh {l:aa}{x:Int}:hasB l x=true↔∃ k:Nat,k<l.length/\ab l k 0=x:=by
 unfold hasB Ms;rw[VV]
 constructor
 ·intro h;unfold dy at h;split at h
  ·rename_i j hj;rw[Wc]at hj;refine⟨j,Ye.1 hj.2.1,?_⟩;have:=hj.1;unfold R7 eqB at this;exact(VY this).symm
  ·omega
 ·rintro⟨k,hk,e⟩;rcases t6 (p:=R7 l x) (n:=l.length)with q|q
  ·exfalso;unfold dy at q;split at q
   ·omega
   ·rename_i hn;rw[WM]at hn;have:=hn k hk;unfold R7 eqB at this;rw[e]at this;simp at this
  ·exact q.1
def ubI (ss l:aa)(b:Int):Nat->Int
 |0=>b
 |n+1=>if hasB l (ab ss n 0)=true then bO .or Za (ubI ss l b n) (ab ss n 2)else ubI ss l b n
def ubB (es ss:aa)(i:Int):Int:=if inR i 0 (ss.length-1)=true then ubI ss (fpg es (ab ss i 0)) (ab ss i 2) ss.length else 0
end Go.V
namespace Go.V
def slB (b i:Int):Bool:=decide (0<=b)&&inR i 0 15
def hsB (b i:Int):Bool:=slB b i&&decide (bO .and Za (Qt .shr Za b i) 1=1)
theorem KS {b i:Int}:slB b i=true↔0<=b/\0<=i/\i<=15:=by simp[slB,inR]
theorem Ml {b i:Int}(h:slB b i=false):hsB b i=false:=by unfold hsB;rw[h];rfl
theorem G4 {i:Int}(h0:0<=i)(h1:i<=15):wrI .u64 i=i:=by
 show YO .u64 i=i;simp only[YO,WN,WO,Bool.false_and];rw[VX (by simp)];omega
end Go.V
namespace Go.V
def Gs (rs:aa)(i:Int):Bool:=decide (0<=ab rs i 0)
def ra (rs:aa):Bool:=cI (Gs rs) rs.length&&decide (rs.length<=40)
def kerOk (cs us es:aa)(c:Int)(rs:aa):Bool:=machOk cs us es&&inR c 0 100000&&ra rs
theorem NN {rs:aa}{i:Int}(h:0<=ab rs i 0):Gs rs i=true:=VT h
theorem NO {cs us es rs:aa}{c i:Int}(h0:0<=i)(h1:i<rs.length)(h:ab rs i 0<0):kerOk cs us es c rs=false:=by
 unfold kerOk ra;rw[bX h0 h1 (by unfold Gs;exact VU (by omega))];simp
theorem Qg {rs:aa}{i:Int}(h:upto (Gs rs) i)(hi:(rs.length:Int)<=i)(hl:(rs.length:Int)<=40):ra rs=true:=by
 unfold ra;rw[bN h hi,VT (by omega)];rfl
theorem Qf {rs:aa}(hl:¬ (rs.length:Int)<=40):ra rs=false:=by
 unfold ra;rw[VU (by omega)];simp
theorem PS {cs us es rs:aa}{c:Int}(h1:machOk cs us es=true)(h2:inR c 0 100000=true)(h3:ra rs=true):kerOk cs us es c rs=true:=by unfold kerOk;rw[h1,h2,h3];rfl
theorem PQ {cs us es rs:aa}{c:Int}(h1:machOk cs us es=false):kerOk cs us es c rs=false:=by unfold kerOk;rw[h1];rfl
theorem Jq {cs us es rs:aa}{c:Int}(h1:inR c 0 100000=false):kerOk cs us es c rs=false:=by unfold kerOk;rw[h1];simp
theorem PR {cs us es rs:aa}{c:Int}(h1:ra rs=false):kerOk cs us es c rs=false:=by unfold kerOk;rw[h1];simp
end Go.V
namespace Go.V
end Go.V
namespace Go.V
theorem FM {a b:aa}:ak (a++b)=ak a+ak b:=by unfold ak;rw[fK,Ze];omega
end Go.V
namespace Go.V
def slN (k:Int):Int:=if inR k 0 3=true then 16/clsSz k else 0
theorem Pm {k:Int}(h:inR k 0 3=true):k=0\/k=1\/k=2\/k=3:=by have:=bH.1 h;omega
theorem mi {k:Int}(h:inR k 0 3=true):1<=clsSz k/\clsSz k<=8/\2<=slN k/\slN k<=16/\slN k*clsSz k=16:=by
 rcases Pm h with rfl|rfl|rfl|rfl<;>decide
theorem N7 {k:Int}(h:inR k 0 3=true):bO .quo Za 16 (clsSz k)=slN k:=by
 rcases Pm h with rfl|rfl|rfl|rfl<;>decide
theorem N8 {k:Int}(h:inR k 0 3=true):Qt .shr Za 16 (wrI .u64 k)=slN k:=by
 rcases Pm h with rfl|rfl|rfl|rfl<;>decide
theorem Iv {k:Int}(h:inR k 0 3=false):slN k=0:=by unfold slN;rw[h];rfl
def bmOk (n b:Int):Bool:=inR n 1 16&&inR b 0 (2^n.toNat-1)
theorem N6 {n:Int}(h:inR n 1 16=true):bO .sub Za (Qt .shl Za 1 n) 1=2^n.toNat-1/\bO .sub Za (Qt .shl Za 1 (wrI .u64 n)) 1=2^n.toNat-1/\0<=wrI .u64 n:=by
 have q:=bH.1 h;have:n=1\/n=2\/n=3\/n=4\/n=5\/n=6\/n=7\/n=8\/n=9\/n=10\/n=11\/n=12\/n=13\/n=14\/n=15\/n=16:=by omega
 rcases this with rfl|rfl|rfl|rfl|rfl|rfl|rfl|rfl|rfl|rfl|rfl|rfl|rfl|rfl|rfl|rfl<;>decide
theorem Q8 {n b:Int}(h:inR n 1 16=false):bmOk n b=false:=by unfold bmOk;rw[h];rfl
theorem Lv {n b:Int}(h:inR n 1 16=true):bmOk n b=inR b 0 (2^n.toNat-1):=by unfold bmOk;rw[h];rfl
def spOk (p k b:Int):Bool:=inR p 0 31&&bmOk (slN k) b
theorem Lu {k b:Int}(h:inR k 0 3=false):bmOk (slN k) b=false:=by rw[Iv h];rfl
theorem Oc {p k b:Int}(h:inR p 0 31=false):spOk p k b=false:=by unfold spOk;rw[h];rfl
theorem ab9 {p k b:Int}(h:inR k 0 3=false):spOk p k b=false:=by unfold spOk;rw[Lu h,Yb]
theorem Od {p k b:Int}(h:inR p 0 31=true):spOk p k b=bmOk (slN k) b:=by unfold spOk;rw[h];rfl
theorem ku {p k b:Int}(h:spOk p k b=true):0<=p/\p<=31/\inR k 0 3=true/\bmOk (slN k) b=true:=by
 unfold spOk at h;simp only[Zc,bH]at h;refine⟨h.1.1,h.1.2,?_,h.2⟩;cases q:inR k 0 3
 ·rw[Lu q]at h;exact absurd h.2 (by decide)
 ·rfl
def pfN (s:Int):Int:=if inR s 9 1000=true then(s+15)/16 else 0
theorem abM {s:Int}(h:inR s 9 1000=true):bO .quo Za (bO .sub Za (bO .add Za s 16) 1) 16=pfN s:=by
 have q:=bH.1 h;have e1:bO .add Za s 16=s+16:=bz (by omega);have e2:bO .sub Za (s+16) 1=s+16-1:=dG (by omega);unfold pfN;rw[VW h,e1,e2,sv (by omega) (by omega) (by omega),show s+16-1=s+15 from by omega]
theorem SJ {s:Int}(h:inR s 9 1000=false):pfN s=0:=by unfold pfN;rw[h];rfl
theorem lL {s:Int}(h:inR s 9 1000=true):1<=pfN s/\pfN s<=63/\s<=pfN s*16:=by
 have q:=bH.1 h;unfold pfN;rw[VW h];omega
theorem Nx {s:Int}:0<pfN s↔inR s 9 1000=true:=by
 constructor
 ·intro h;cases q:inR s 9 1000
  ·rw[SJ q]at h;omega
  ·rfl
 ·intro h;have:=lL h;omega
def lgOk (p n s:Int):Bool:=inR s 9 1000&&(decide (n=pfN s)&&inR p 0 (32-n))
theorem MO {p n s:Int}(h:inR s 9 1000=false):lgOk p n s=false:=by unfold lgOk;rw[h];rfl
theorem MP {p n s:Int}(h:n≠pfN s):lgOk p n s=false:=by unfold lgOk;rw[VU h];simp
theorem MQ {p n s:Int}(h:inR s 9 1000=true)(h2:n=pfN s):lgOk p n s=inR p 0 (32-n):=by unfold lgOk;rw[h,VT h2];rfl
theorem kn {p n s:Int}(h:lgOk p n s=true):inR s 9 1000=true/\n=pfN s/\0<=p/\p<=32-n:=by
 unfold lgOk at h;simp only[Zc,VV,bH]at h;exact⟨bH.2 h.1,h.2.1,h.2.2⟩
def Fq (p k b a:Int):Bool:=spOk p k b&&inR a (p*16) (p*16+15)
def saS (p k b a:Int):Int:=if Fq p k b a=true then(a-p*16)/clsSz k else-1
def saO (p k b a:Int):Int:=if Fq p k b a=true then(a-p*16)%clsSz k else-1
theorem Dg {p k b a:Int}(h:Fq p k b a=false):saS p k b a= -1/\saO p k b a= -1:=by unfold saS saO;rw[h];exact⟨rfl,rfl⟩
theorem vU {p k b a:Int}(h:Fq p k b a=true):saS p k b a=(a-p*16)/clsSz k/\saO p k b a=(a-p*16)%clsSz k:=by unfold saS saO;rw[VW h,VW h];exact⟨rfl,rfl⟩
theorem sX {p k b a:Int}:Fq p k b a=true↔spOk p k b=true/\p*16<=a/\a<=p*16+15:=by unfold Fq;rw[Zc,bH]
def aaB (p k b s:Int):Bool:=spOk p k b&&inR s 0 (slN k-1)
def aaI (p k b s:Int):Int:=if aaB p k b s=true then p*16+s*clsSz k else-1
def lhB (p n s a:Int):Bool:=lgOk p n s&&inR a (p*16) (p*16+s-1)
def loI (p n s a:Int):Int:=if lhB p n s a=true then a-p*16 else-1
theorem MS {p n s a:Int}(h:lgOk p n s=false):lhB p n s a=false:=by unfold lhB;rw[h];rfl
theorem H0 {p n s a:Int}(h:lgOk p n s=true):lhB p n s a=inR a (p*16) (p*16+s-1):=by unfold lhB;rw[h];rfl
theorem ad9 {p n s a:Int}(h:lhB p n s a=false):loI p n s a= -1:=by unfold loI;rw[h];rfl
theorem abr {p n s a:Int}(h:lhB p n s a=true):loI p n s a=a-p*16:=by unfold loI;rw[VW h]
theorem H5 {a b:Int}(h: -9223372036854775808<=a*b/\a*b<=9223372036854775807):bO .mul Za a b=a*b:=Xt _ h
theorem aeN {p:Int}(h:0<=p/\p<=31):bO .mul Za p 16=p*16/\bO .sub Za (bO .add Za (p*16) 16) 1=p*16+15:=by
 have e1:bO .mul Za p 16=p*16:=H5 (by omega);have e2:bO .add Za (p*16) 16=p*16+16:=bz (by omega);have e3:bO .sub Za (p*16+16) 1=p*16+16-1:=dG (by omega);rw[e1,e2,e3];omega
theorem Qn {p k b a:Int}(h:spOk p k b=true)(h1:inR a (p*16) (p*16+15)=true):saS p k b a=bO .quo Za (bO .sub Za a (p*16)) (clsSz k)/\saO p k b a=bO .rem Za (bO .sub Za a (p*16)) (clsSz k):=by
 have t:=ku h;have q:=bH.1 h1;have c:=mi t.2.2.1;have y:=vU (sX.2 ⟨h,q⟩);have e:bO .sub Za a (p*16)=a-p*16:=dG (by omega);rw[y.1,y.2,e,sv (by omega) (by omega) (by omega),De (by omega)];exact⟨rfl,rfl⟩
theorem To {p k b a:Int}(h:spOk p k b=false):Fq p k b a=false:=by unfold Fq;rw[h];rfl
theorem afF {p k b a:Int}(h:inR a (p*16) (p*16+15)=false):Fq p k b a=false:=by unfold Fq;rw[h,Yb]
theorem Qo {p k b a:Int}(h:spOk p k b=true)(h0:¬ a<0)(h1:bO .quo Za a 16=p)(ha:a<=9223372036854775807):saS p k b a=bO .quo Za (bO .rem Za a 16) (clsSz k)/\saO p k b a=bO .rem Za (bO .rem Za a 16) (clsSz k):=by
 have t:=ku h;have c:=mi t.2.2.1;rw[sv (by omega) ha (by omega)]at h1;have e:bO .rem Za a 16=a%16:=De (by omega);have y:=vU (sX.2 ⟨h,show p*16<=a/\a<=p*16+15 by omega⟩);rw[y.1,y.2,e,sv (by omega) (by omega) (by omega),De (by omega),show a-p*16=a%16 by omega];exact⟨rfl,rfl⟩
theorem Tp {p k b a:Int}(h0:a<0\/bO .quo Za a 16≠p)(ha:a<=9223372036854775807):Fq p k b a=false:=by
 cases q:Fq p k b a
 ·rfl
 ·obtain⟨h,h1⟩:=sX.1 q;have t:=ku h;rcases h0 with h0|h0;omega
  ·rw[sv (by omega) ha (by omega)]at h0;omega
theorem aab {p k b s:Int}(h:spOk p k b=true)(h1:inR s 0 (slN k-1)=true):bO .add Za (bO .mul Za p 16) (bO .mul Za s (clsSz k))=aaI p k b s:=by
 have t:=ku h;have c:=mi t.2.2.1;have q:=bH.1 h1;have m1:0<=s*clsSz k:=Int.mul_nonneg q.1 (by omega);have m2:s*clsSz k<=(slN k-1)*clsSz k:=Int.mul_le_mul_of_nonneg_right q.2 (by omega);have m3:(slN k-1)*clsSz k=16-clsSz k:=by rw[Int.sub_mul,c.2.2.2.2,Int.one_mul]
 have e:bO .mul Za s (clsSz k)=s*clsSz k:=H5 (by omega);rw[(aeN ⟨t.1,t.2.1⟩).1,e];unfold aaI aaB;rw[h,h1];exact bz (by omega)
theorem Q4 {p k b s:Int}(h:spOk p k b=false\/inR s 0 (slN k-1)=false):aaI p k b s= -1:=by
 unfold aaI aaB;rcases h with h|h
 ·rw[h];rfl
 ·rw[h,Yb];rfl
theorem MR {p n s:Int}(h:lgOk p n s=true):bO .mul Za p 16=p*16/\bO .add Za (bO .mul Za p 16) s=p*16+s/\bO .sub Za (bO .add Za (bO .mul Za p 16) s) 1=p*16+s-1:=by
 have t:=kn h;have b:=lL t.1;have q:=bH.1 t.1;have e1:bO .mul Za p 16=p*16:=H5 (by omega);have e2:bO .add Za (p*16) s=p*16+s:=bz (by omega);have e3:bO .sub Za (p*16+s) 1=p*16+s-1:=dG (by omega);rw[e1,e2,e3];exact⟨rfl,rfl,rfl⟩
theorem abn {p n s a:Int}:lhB p n s a=true↔lgOk p n s=true/\p*16<=a/\a<=p*16+s-1:=by unfold lhB;rw[Zc,bH]
theorem ad8 {p n s a:Int}(h:lhB p n s a=true):bO .sub Za a (bO .mul Za p 16)=loI p n s a:=by
 obtain⟨h1,h2,h3⟩:=abn.1 h;have t:=kn h1;have b:=lL t.1;have q:=bH.1 t.1;rw[(MR h1).1,abr h];exact dG (by omega)
end Go.V
namespace Go.V
def jo (l:List Int):aa:=l.map fun x=>[.i x]
theorem cn {l:List Int}:(jo l).length=l.length:=by unfold jo;rw[List.length_map]
theorem io {a b:List Int}:jo (a++b)=jo a++jo b:=by unfold jo;rw[List.map_append]
theorem vS {l:List Int}{k:Nat}(h:k<l.length):ab (jo l) k 0=l[k]:=by
 have e:(jo l).getD k []=[.i l[k]]:=by
  unfold jo;rw[Zo,List.getElem?_map,Zv h];rfl
 unfold ab;rw[Zy,e];rfl
theorem rD {l:List Int}{x:Int}:hasB (jo l) x=true↔x∈l:=by
 rw[Jh]
 constructor
 ·rintro⟨k,hk,e⟩;rw[cn]at hk;rw[vS hk]at e;rw[<-e];exact List.getElem_mem hk
 ·intro h;obtain⟨k,hk,e⟩:=List.getElem_of_mem h;exact⟨k,by rw[cn];exact hk,by rw[vS hk];exact e⟩
theorem yE {l:List Int}{x:Int}(h:hasB (jo l) x=false):x∉l:=fun m=>by rw[rD.2 m]at h;cases h
theorem vT {l:List Int}(h:∀ x∈l,-9223372036854775808<=x/\x<=9223372036854775807)(hl:l.length<=70368744177664):Rw [tI] (jo l):=by
 refine⟨by rw[cn];unfold maxLen;omega,fun e he=>?_⟩;obtain⟨x,hx,rfl⟩:=List.mem_map.1 he;have q:=h x hx;exact⟨⟨rfl,by show-9223372036854775808<=x/\x<=(9223372036854775807:Int);exact q⟩,trivial⟩
theorem aaR {l:aa}{x i:Int}(h:upto (cZ (R7 l x)) i)(hi:(l.length:Int)<=i):hasB l x=false:=by
 unfold hasB Ms;rw[eY h hi];rfl
def Tt (sp:aa)(i:Int):Bool:=spOk (ab sp i 0) (ab sp i 1) (ab sp i 2)
def lgA (lg:aa)(i:Int):Bool:=lgOk (ab lg i 0) (ab lg i 1) (ab lg i 2)
def oG (sp:aa):Nat->List Int
 |0=>[]
 |n+1=>oG sp n++[ab sp n 0]
def rJ (p:Int):Nat->List Int
 |0=>[]
 |n+1=>rJ p n++[p+n]
def oF (lg:aa):Nat->List Int
 |0=>[]
 |n+1=>oF lg n++rJ (ab lg n 0) (ab lg n 1).toNat
def yJ (sp lg:aa):List Int:=oG sp sp.length++oF lg lg.length
def layOk (sp lg:aa):Bool:=(cI (Tt sp) sp.length&&cI (lgA lg) lg.length)&&decide (yJ sp lg).Nodup
theorem rl {sp:aa}{i:Int}(h:0<=i):oG sp (i+1).toNat=oG sp i.toNat++[ab sp i 0]:=by
 rw[show(i+1).toNat=i.toNat+1 from by omega,oG,Zt h]
theorem sQ {lg:aa}{i:Int}(h:0<=i):oF lg (i+1).toNat=oF lg i.toNat++rJ (ab lg i 0) (ab lg i 1).toNat:=by
 rw[show(i+1).toNat=i.toNat+1 from by omega,oF,Zt h]
theorem A5 {p i:Int}(h:0<=i):rJ p (i+1).toNat=rJ p i.toNat++[p+i]:=by
 rw[show(i+1).toNat=i.toNat+1 from by omega,rJ,Zt h]
theorem rO {sp:aa}:∀ {n:Nat},(oG sp n).length=n
 |0=>rfl
 |n+1=>by rw[oG,Ze,rO];rfl
theorem uy {p:Int}:∀ {n:Nat},(rJ p n).length=n
 |0=>rfl
 |n+1=>by rw[rJ,Ze,uy];rfl
theorem Kf {sp:aa}:∀ (m n:Nat),n<=m->∃ r,oG sp m=oG sp n++r
 |0,n,h=>⟨[],by rw[show n=0 by omega];rfl⟩
 | m+1,n,h=>by
   by_cases c:n=m+1
   ·subst c;exact⟨[],by simp⟩
   ·obtain⟨r,e⟩:=Kf (sp:=sp) m n (by omega);exact⟨r++[ab sp m 0],by rw[oG,e,Zm]⟩
theorem JU {p:Int}:∀ (m n:Nat),n<=m->∃ r,rJ p m=rJ p n++r
 |0,n,h=>⟨[],by rw[show n=0 by omega];rfl⟩
 | m+1,n,h=>by
   by_cases c:n=m+1
   ·subst c;exact⟨[],by simp⟩
   ·obtain⟨r,e⟩:=JU (p:=p) m n (by omega);exact⟨r++[p+m],by rw[rJ,e,Zm]⟩
theorem Jz {lg:aa}:∀ (m n:Nat),n<=m->∃ r,oF lg m=oF lg n++r
 |0,n,h=>⟨[],by rw[show n=0 by omega];rfl⟩
 | m+1,n,h=>by
   by_cases c:n=m+1
   ·subst c;exact⟨[],by simp⟩
   ·obtain⟨r,e⟩:=Jz (lg:=lg) m n (by omega);exact⟨r++rJ (ab lg m 0) (ab lg m 1).toNat,by rw[oF,e,Zm]⟩
theorem dup {a b l:List Int}{x:Int}(h:l=a++x::b)(hm:x∈a):¬ l.Nodup:=by
 rw[h,Zx];rintro⟨_,_,q⟩;exact q x hm x (by simp) rfl
theorem nD {a:List Int}{x:Int}(h:a.Nodup)(hx:x∉a):(a++[x]).Nodup:=by
 rw[Zx];exact⟨h,by simp,fun y hy z hz e=>by simp at hz;subst hz;subst e;exact hx hy⟩
theorem Js {sp lg:aa}{i:Int}(h0:0<=i)(h1:i<sp.length)(h:spOk (ab sp i 0) (ab sp i 1) (ab sp i 2)=false):layOk sp lg=false:=by
 unfold layOk;rw[bX h0 h1 h];rfl
theorem Jt {sp lg:aa}{i:Int}(h0:0<=i)(h1:i<lg.length)(h:lgOk (ab lg i 0) (ab lg i 1) (ab lg i 2)=false):layOk sp lg=false:=by
 unfold layOk;rw[bX (p:=lgA lg) h0 h1 h,Yb];rfl
theorem Ju {sp lg:aa}{i:Int}(h0:0<=i)(h1:i<sp.length)(h:ab sp i 0∈oG sp i.toNat):layOk sp lg=false:=by
 obtain⟨r,e⟩:=Kf (sp:=sp) sp.length (i+1).toNat (by omega);rw[rl h0,Zm]at e;have:¬ (yJ sp lg).Nodup:=dup (a:=oG sp i.toNat) (b:=r++oF lg lg.length) (x:=ab sp i 0) (by unfold yJ;rw[e,Zm];rfl) h;unfold layOk;rw[VU this,Yb]
theorem Jv {sp lg:aa}{i k:Int}(h0:0<=i)(h1:i<lg.length)(k0:0<=k)(k1:k<ab lg i 1)(h:ab lg i 0+k∈oG sp sp.length++oF lg i.toNat++rJ (ab lg i 0) k.toNat):layOk sp lg=false:=by
 obtain⟨r,e⟩:=Jz (lg:=lg) lg.length (i+1).toNat (by omega);obtain⟨r2,e2⟩:=JU (p:=ab lg i 0) (ab lg i 1).toNat (k+1).toNat (by omega);rw[sQ h0,e2,A5 k0]at e;have:¬ (yJ sp lg).Nodup:=dup (a:=oG sp sp.length++oF lg i.toNat++rJ (ab lg i 0) k.toNat) (b:=r2++r) (x:=ab lg i 0+k) (by unfold yJ;rw[e];simp only[Zm];rfl) h;unfold layOk;rw[VU this,Yb]
theorem Jw {sp lg:aa}{i j:Int}(h:upto (Tt sp) i)(hi:(sp.length:Int)<=i)(h2:upto (lgA lg) j)(hj:(lg.length:Int)<=j)(hn:(yJ sp lg).Nodup):layOk sp lg=true:=by
 unfold layOk;rw[bN h hi,bN h2 hj,VT hn];rfl
theorem MH {sp lg:aa}(h:layOk sp lg=true):(∀ i:Int,0<=i->i<sp.length->spOk (ab sp i 0) (ab sp i 1) (ab sp i 2)=true)/\(∀ i:Int,0<=i->i<lg.length->lgOk (ab lg i 0) (ab lg i 1) (ab lg i 2)=true)/\(yJ sp lg).Nodup:=by
 unfold layOk at h;simp only[Zc,VV]at h;exact⟨dh.1 h.1.1,dh.1 h.1.2,h.2⟩
def WfB (es:aa):Prop:=∀ e∈es,∃ (k:Int) (b:Bool),e=[.i k,.v (.bool b)]
theorem AW {k:Int}{b:Bool}{es:aa}{n:Int}:fb ([.i k,.v (.bool b)]::es) n=if k=n then some (0,.bool b)else(fb es n).map fun p=>(p.1+1,p.2):=rfl
theorem qV {k:Int}{b:Bool}{es:aa}{n:Int}:mgbI ([.i k,.v (.bool b)]::es) n=if k=n then b else mgbI es n:=by
 unfold mgbI;rw[AW];by_cases c:k=n
 ·rw[VW c,VW c]
 ·rw[VX c,VX c];cases fb es n with
  |none=>rfl
  |some p=>obtain⟨j,v⟩:=p;cases v<;>rfl
theorem JF {k:Int}{b x:Bool}{es:aa}{n:Int}:oY ([.i k,.v (.bool b)]::es) n (.v (.bool x))=if k=n then[.i n,.v (.bool x)]::es else[.i k,.v (.bool b)]::oY es n (.v (.bool x)):=by
 unfold oY;rw[AW];by_cases c:k=n
 ·rw[VW c,VW c];rfl
 ·rw[VX c,VX c];cases fb es n with
  |none=>rfl
  |some p=>rfl
theorem mub {x:Bool}{n:Int}:∀ {es:aa},WfB es->WfB (oY es n (.v (.bool x)))/\∀ m,mgbI (oY es n (.v (.bool x))) m=if m=n then x else mgbI es m
 | [],_=>by
   refine⟨fun e he=>?_,fun m=>?_⟩
   ·have:e=[.i n,.v (.bool x)]:=by simpa[oY,fb]using he
    exact⟨n,x,this⟩
   ·show mgbI [[.i n,.v (.bool x)]] m=_;rw[qV];by_cases c:m=n
    ·rw[VW c.symm,VW c]
    ·rw[VX (fun e=>c e.symm),VX c]
 | e::es,h=>by
   obtain⟨k,b,rfl⟩:=h e (by simp);have h':WfB es:=fun e he=>h e (by simp[he])
   obtain⟨a1,a2⟩:=mub (x:=x) (n:=n) h';rw[JF];by_cases c:k=n
   ·rw[VW c];refine⟨fun e he=>?_,fun m=>?_⟩
    ·rcases Zl.1 he with rfl|he;exact⟨n,x,rfl⟩;exact h' e he
    ·rw[qV,qV];by_cases d:m=n
     ·rw[VW d.symm,VW d]
     ·rw[VX (fun e=>d e.symm),VX d,VX (fun e=>d (by rw[<-e,c]))]
   ·rw[VX c];refine⟨fun e he=>?_,fun m=>?_⟩
    ·rcases Zl.1 he with rfl|he;exact⟨k,b,rfl⟩;exact a1 e he
    ·rw[qV,qV,a2 m];by_cases d:k=m
     ·rw[VW d,VW d,VX (fun e=>c (d.trans e))]
     ·rw[VX d,VX d]
def muT (es:aa)(n:Int):aa:=oY es n (.v (.bool true))
structure sf (es:aa)(l:List Int):Prop where
 wf:WfB es
 at_:∀ m,mgbI es m=true↔m∈l
theorem Is:sf [] []:=⟨(fun e he=>by cases he),fun m=>by simp[mgbI,fb]⟩
theorem yO {es:aa}{l:List Int}{n:Int}(h:sf es l):sf (oY es n (.v (.bool true))) (l++[n]):=by
 have q:=mub (x:=true) (n:=n) h.wf;refine⟨q.1,fun m=>?_⟩;rw[q.2 m];by_cases c:m=n
 ·rw[VW c];simp[c]
 ·rw[VX c,h.at_ m];simp[c]
def one (x:Int):aa:=[[.i x]]
structure OS (sp:aa)(i:Int)(o:aa):Prop where
 e:o=jo (oG sp i.toNat)
 nd:(oG sp i.toNat).Nodup
 ok:upto (Tt sp) i
 b:∀ x∈oG sp i.toNat,0<=x/\x<=64
structure LlP (sp lg:aa)(j:Int)(o:aa):Prop where
 e:o=jo (oG sp sp.length++oF lg j.toNat)
 nd:(oG sp sp.length++oF lg j.toNat).Nodup
 oks:upto (Tt sp) sp.length
 ok:upto (lgA lg) j
 b:∀ x∈oG sp sp.length++oF lg j.toNat,0<=x/\x<=64
 l:(oF lg j.toNat).length<=64*j.toNat
structure OR (sp lg:aa)(j k:Int)(o:aa):Prop where
 e:o=jo (oG sp sp.length++oF lg j.toNat++rJ (ab lg j 0) k.toNat)
 nd:(oG sp sp.length++oF lg j.toNat++rJ (ab lg j 0) k.toNat).Nodup
 oks:upto (Tt sp) sp.length
 ok:upto (lgA lg) j
 b:∀ x∈oG sp sp.length++oF lg j.toNat++rJ (ab lg j 0) k.toNat,0<=x/\x<=64
 l:(oF lg j.toNat).length<=64*j.toNat
theorem Lw {l:List Int}(h:∀ x∈l,0<=x/\x<=64)(hl:l.length<=70368744177664):Rw [tI] (jo l):=vT (fun x hx=>by have:=h x hx;omega) hl
theorem FB {l:List Int}{x:Int}(h:∀ x∈l,0<=x/\x<=64)(hx:0<=x/\x<=64):∀ y∈l++[x],0<=y/\y<=64:=by
 intro y hy;rcases Zf.1 hy with q|q;exact h y q
 ·simp at q;rw[q];exact hx
theorem ahw {sp:aa}:OS sp 0 []:=⟨rfl,ZJ,bK,fun x hx=>by cases hx⟩
theorem MV {sp o:aa}{i:Int}(h:OS sp i o):o.length=i.toNat:=by rw[h.e,cn,rO]
theorem aea {sp o:aa}{i:Int}(h:OS sp i o)(hi:i<=1073741824):Rw [tI] o:=by
 have l:=MV h;have e:=h.e;rw[e,cn]at l;rw[e];exact Lw h.b (by omega)
theorem abt {sp lg o:aa}{i:Int}(h:OS sp i o)(h0:0<=i)(h1:i<sp.length)(hh:hasB o (ab sp i 0)=true):layOk sp lg=false:=by
 rw[h.e,rD]at hh;exact Ju h0 h1 hh
theorem aeb {sp o:aa}{i:Int}(h:OS sp i o)(h0:0<=i)(hs:spOk (ab sp i 0) (ab sp i 1) (ab sp i 2)=true)(hh:hasB o (ab sp i 0)=false):OS sp (i+1) (o++[[.i (ab sp i 0)]]):=by
 have t:=ku hs;have e:=h.e;rw[e]at hh;have hm:=yE hh;exact⟨by rw[rl h0,io,e];rfl,by rw[rl h0];exact nD h.nd hm,aZ h.ok hs,by rw[rl h0];exact FB h.b (by omega)⟩
theorem abu {sp lg o:aa}{i:Int}(h:OS sp i o)(h1:i<=sp.length)(h2:(sp.length:Int)<=i):LlP sp lg 0 o:=by
 have e:i.toNat=sp.length:=by omega
 have ei:i=sp.length:=by omega
 have q1:=h.e;have q2:=h.nd;have q3:=h.ok;have q4:=h.b;rw[e]at q1 q2 q4;rw[ei]at q3;exact⟨by rw[q1];simp[oF],by simpa[oF]using q2,q3,bK,by simpa[oF]using q4,by simp[oF]⟩
theorem ahv {sp lg o:aa}{j:Int}(h:LlP sp lg j o):OR sp lg j 0 o:=by
 refine⟨by rw[h.e];simp[rJ],by simpa[rJ]using h.nd,h.oks,h.ok,by simpa[rJ]using h.b,h.l⟩
theorem MU {sp lg o:aa}{j k:Int}(h:OR sp lg j k o):o.length<=sp.length+64*j.toNat+k.toNat:=by
 have l:=h.l;rw[h.e,cn,Ze,Ze,rO,uy];omega
theorem ad6 {sp lg o:aa}{j k:Int}(h:OR sp lg j k o)(h1:sp.length<=1073741824)(h2:j<=1073741824)(h3:k<=64):Rw [tI] o:=by
 have l:=MU h;have e:=h.e;rw[e,cn]at l;rw[e];exact Lw h.b (by omega)
theorem abo {sp lg o:aa}{j k:Int}(h:OR sp lg j k o)(h0:0<=j)(h1:j<lg.length)(k0:0<=k)(k1:k<ab lg j 1)(hh:hasB o (ab lg j 0+k)=true):layOk sp lg=false:=by
 rw[h.e,rD]at hh;exact Jv h0 h1 k0 k1 hh
theorem ad5 {p n s k:Int}(h:lgOk p n s=true)(k0:0<=k)(k1:k<n):0<=p/\p+k<=32/\bO .add Za p k=p+k/\1<=n/\n<=32:=by
 have t:=kn h;have b:=lL t.1;have e:bO .add Za p k=p+k:=bz (by omega);exact⟨by omega,by omega,e,by omega,by omega⟩
theorem ad7 {sp lg o:aa}{j k:Int}(h:OR sp lg j k o)(k0:0<=k)(hx:0<=ab lg j 0+k/\ab lg j 0+k<=64)(hh:hasB o (ab lg j 0+k)=false):OR sp lg j (k+1) (o++[[.i (ab lg j 0+k)]]):=by
 have e:=h.e;rw[e]at hh;have hm:=yE hh;have q:∀ A:List Int,A++rJ (ab lg j 0) (k+1).toNat=A++rJ (ab lg j 0) k.toNat++[ab lg j 0+k]:=fun A=>by rw[A5 k0,Zm]
 exact⟨by rw[q,io,e];rfl,by rw[q];exact nD h.nd hm,h.oks,h.ok,by rw[q];exact FB h.b hx,h.l⟩
theorem abp {sp lg o:aa}{j k:Int}(h:OR sp lg j k o)(j0:0<=j)(hl:lgOk (ab lg j 0) (ab lg j 1) (ab lg j 2)=true)(k0:0<=k)(k1:k<=ab lg j 1)(k2:ab lg j 1<=k):LlP sp lg (j+1) o:=by
 have t:=kn hl;have b:=lL t.1;have ek:k.toNat=(ab lg j 1).toNat:=by omega
 have q1:=h.e;have q2:=h.nd;have q4:=h.b;have q5:=h.l;rw[ek,Zm, <-sQ j0]at q1 q2 q4;refine⟨q1,q2,h.oks,aZ h.ok hl,q4,?_⟩;rw[sQ j0,Ze,uy];omega
theorem abq {sp lg o:aa}{j:Int}(h:LlP sp lg j o)(j1:j<=lg.length)(j2:(lg.length:Int)<=j):layOk sp lg=true:=by
 have e:j.toNat=lg.length:=by omega
 have q:=h.nd;rw[e]at q;exact Jw h.oks (Yj _) h.ok j2 q
end Go.V
namespace Go.V
structure TR (sp:aa)(i:Int)(es:aa):Prop where
 s:sf es (oG sp i.toNat)
 nd:(oG sp i.toNat).Nodup
 ok:upto (Tt sp) i
structure IlP (sp lg:aa)(j:Int)(es:aa):Prop where
 s:sf es (oG sp sp.length++oF lg j.toNat)
 nd:(oG sp sp.length++oF lg j.toNat).Nodup
 oks:upto (Tt sp) sp.length
 ok:upto (lgA lg) j
structure TP (sp lg:aa)(j k:Int)(es:aa):Prop where
 s:sf es (oG sp sp.length++oF lg j.toNat++rJ (ab lg j 0) k.toNat)
 nd:(oG sp sp.length++oF lg j.toNat++rJ (ab lg j 0) k.toNat).Nodup
 oks:upto (Tt sp) sp.length
 ok:upto (lgA lg) j
theorem N1 {es:aa}{l:List Int}{n:Int}(h:sf es l)(e:mgbI es n=false):n∉l:=fun m=>by rw[(h.at_ n).2 m]at e;cases e
theorem ahq {sp:aa}:TR sp 0 []:=⟨Is,ZJ,bK⟩
theorem abh {sp lg es:aa}{i:Int}(h:TR sp i es)(h0:0<=i)(h1:i<sp.length)(hh:mgbI es (ab sp i 0)=true):layOk sp lg=false:=
 Ju h0 h1 ((h.s.at_ _).1 hh)
theorem adL {sp es:aa}{i:Int}(h:TR sp i es)(h0:0<=i)(hs:spOk (ab sp i 0) (ab sp i 1) (ab sp i 2)=true)(hh:mgbI es (ab sp i 0)=false):TR sp (i+1) (muT es (ab sp i 0)):=
 ⟨by rw[rl h0];exact yO h.s,by rw[rl h0];exact nD h.nd (N1 h.s hh),aZ h.ok hs⟩
theorem abi {sp lg es:aa}{i:Int}(h:TR sp i es)(h1:i<=sp.length)(h2:(sp.length:Int)<=i):IlP sp lg 0 es:=by
 have e:i.toNat=sp.length:=by omega
 have ei:i=sp.length:=by omega
 have q1:=h.s;have q2:=h.nd;have q3:=h.ok;rw[e]at q1 q2;rw[ei]at q3;exact⟨by simpa[oF]using q1,by simpa[oF]using q2,q3,bK⟩
theorem ahp {sp lg es:aa}{j:Int}(h:IlP sp lg j es):TP sp lg j 0 es:=
 ⟨by simpa[rJ]using h.s,by simpa[rJ]using h.nd,h.oks,h.ok⟩
theorem abb {sp lg es:aa}{j k:Int}(h:TP sp lg j k es)(h0:0<=j)(h1:j<lg.length)(k0:0<=k)(k1:k<ab lg j 1)(hh:mgbI es (ab lg j 0+k)=true):layOk sp lg=false:=
 Jv h0 h1 k0 k1 ((h.s.at_ _).1 hh)
theorem adK {sp lg es:aa}{j k:Int}(h:TP sp lg j k es)(k0:0<=k)(hh:mgbI es (ab lg j 0+k)=false):TP sp lg j (k+1) (muT es (ab lg j 0+k)):=by
 have q:∀ A:List Int,A++rJ (ab lg j 0) (k+1).toNat=A++rJ (ab lg j 0) k.toNat++[ab lg j 0+k]:=fun A=>by rw[A5 k0,Zm]
 exact⟨by rw[q];exact yO h.s,by rw[q];exact nD h.nd (N1 h.s hh),h.oks,h.ok⟩
theorem abc {sp lg es:aa}{j k:Int}(h:TP sp lg j k es)(j0:0<=j)(hl:lgOk (ab lg j 0) (ab lg j 1) (ab lg j 2)=true)(k1:k<=ab lg j 1)(k2:ab lg j 1<=k):IlP sp lg (j+1) es:=by
 have ek:k.toNat=(ab lg j 1).toNat:=by omega
 have q1:=h.s;have q2:=h.nd;rw[ek,Zm, <-sQ j0]at q1 q2;exact⟨q1,q2,h.oks,aZ h.ok hl⟩
theorem abd {sp lg es:aa}{j:Int}(h:IlP sp lg j es)(j1:j<=lg.length)(j2:(lg.length:Int)<=j):layOk sp lg=true:=by
 have e:j.toNat=lg.length:=by omega
 have q:=h.nd;rw[e]at q;exact Jw h.oks (Yj _) h.ok j2 q
theorem aeu {b:Bool}(h:(!b)=false):b=true:=by cases b<;>simp_all
theorem aev {b:Bool}(h:(!b)=true):b=false:=by cases b<;>simp_all
end Go.V
namespace Go.V
def BI (sp:aa)(a i:Int):Bool:=decide (0<=saS (ab sp i 0) (ab sp i 1) (ab sp i 2) a)
def BG (lg:aa)(a i:Int):Bool:=lhB (ab lg i 0) (ab lg i 1) (ab lg i 2) a
def hD (sp:aa)(a:Int):Int:=dy (BI sp a) sp.length
def ni (lg:aa)(a:Int):Int:=dy (BG lg a) lg.length
def yP (sp:aa)(a i:Int):Int:=saS (ab sp i 0) (ab sp i 1) (ab sp i 2) a
def Qv (sp:aa)(a i:Int):Int:=saO (ab sp i 0) (ab sp i 1) (ab sp i 2) a
def loA (lg:aa)(a i:Int):Int:=loI (ab lg i 0) (ab lg i 1) (ab lg i 2) a
def dnK (sp lg:aa)(a:Int):Int:=if 0<=hD sp a then(if hsB (ab sp (hD sp a) 2) (yP sp a (hD sp a))then 1 else 2)else if 0<=ni lg a then 3 else 0
def dnI (sp lg:aa)(a:Int):Int:=if 0<=hD sp a then hD sp a else if 0<=ni lg a then ni lg a else 0
def dnS (sp:aa)(a:Int):Int:=if 0<=hD sp a then yP sp a (hD sp a)else 0
def dnO (sp lg:aa)(a:Int):Int:=if 0<=hD sp a then Qv sp a (hD sp a)else if 0<=ni lg a then loA lg a (ni lg a)else 0
def dzK (sp lg:aa)(a:Int):Int:=if layOk sp lg then dnK sp lg a else 0
def dzI (sp lg:aa)(a:Int):Int:=if layOk sp lg then dnI sp lg a else 0
def dzS (sp lg:aa)(a:Int):Int:=if layOk sp lg then dnS sp a else 0
def dzO (sp lg:aa)(a:Int):Int:=if layOk sp lg then dnO sp lg a else 0
theorem afE {sp:aa}{a i:Int}(h:upto (cZ (BI sp a)) i)(hs:saS (ab sp i 0) (ab sp i 1) (ab sp i 2) a<0):upto (cZ (BI sp a)) (i+1):=
 aZ h (by unfold cZ BI;rw[VU (by omega)];rfl)
theorem adX {lg:aa}{a i:Int}(h:upto (cZ (BG lg a)) i)(hs:lhB (ab lg i 0) (ab lg i 1) (ab lg i 2) a=false):upto (cZ (BG lg a)) (i+1):=
 aZ h (by unfold cZ BG;rw[hs];rfl)
theorem RJ {sp:aa}{a i:Int}(h:upto (cZ (BI sp a)) i)(h0:0<=i)(h1:i<sp.length)(hs:0<=saS (ab sp i 0) (ab sp i 1) (ab sp i 2) a):hD sp a=i:=
 dM h h0 h1 (VT hs)
theorem RL {sp:aa}{a i:Int}(h:upto (cZ (BI sp a)) i)(h1:(sp.length:Int)<=i):hD sp a= -1:=eY h h1
theorem acW {lg:aa}{a i:Int}(h:upto (cZ (BG lg a)) i)(h0:0<=i)(h1:i<lg.length)(hs:lhB (ab lg i 0) (ab lg i 1) (ab lg i 2) a=true):ni lg a=i:=
 dM h h0 h1 hs
theorem acY {lg:aa}{a i:Int}(h:upto (cZ (BG lg a)) i)(h1:(lg.length:Int)<=i):ni lg a= -1:=eY h h1
def owL (k i s o:Int):List DV:=[DV.agg [.i k,.i i,.i s,.i o]]
def OC (sp lg:aa)(a:Int):List DV:=owL (dnK sp lg a) (dnI sp lg a) (dnS sp a) (dnO sp lg a)
def dzL (sp lg:aa)(a:Int):List DV:=owL (dzK sp lg a) (dzI sp lg a) (dzS sp lg a) (dzO sp lg a)
theorem ow1 {sp lg:aa}{a i:Int}(h:upto (cZ (BI sp a)) i)(h0:0<=i)(h1:i<sp.length)(hs:0<=saS (ab sp i 0) (ab sp i 1) (ab sp i 2) a)(hh:hsB (ab sp i 2) (saS (ab sp i 0) (ab sp i 1) (ab sp i 2) a)=true):
 owL 1 i (saS (ab sp i 0) (ab sp i 1) (ab sp i 2) a) (saO (ab sp i 0) (ab sp i 1) (ab sp i 2) a)=OC sp lg a:=by
 have e:=RJ h h0 h1 hs;unfold OC dnK dnI dnS dnO yP Qv;rw[e,VW h0,VW h0,VW h0,VW h0,hh];rfl
theorem ow2 {sp lg:aa}{a i:Int}(h:upto (cZ (BI sp a)) i)(h0:0<=i)(h1:i<sp.length)(hs:0<=saS (ab sp i 0) (ab sp i 1) (ab sp i 2) a)(hh:hsB (ab sp i 2) (saS (ab sp i 0) (ab sp i 1) (ab sp i 2) a)=false):
 owL 2 i (saS (ab sp i 0) (ab sp i 1) (ab sp i 2) a) (saO (ab sp i 0) (ab sp i 1) (ab sp i 2) a)=OC sp lg a:=by
 have e:=RJ h h0 h1 hs;unfold OC dnK dnI dnS dnO yP Qv;rw[e,VW h0,VW h0,VW h0,VW h0,hh];rfl
theorem ow3 {sp lg:aa}{a i j:Int}(h:upto (cZ (BI sp a)) i)(h1:(sp.length:Int)<=i)(g:upto (cZ (BG lg a)) j)(j0:0<=j)(j1:j<lg.length)(hh:lhB (ab lg j 0) (ab lg j 1) (ab lg j 2) a=true):
 owL 3 j 0 (loI (ab lg j 0) (ab lg j 1) (ab lg j 2) a)=OC sp lg a:=by
 have e:=RL h h1;have f:=acW g j0 j1 hh;have n:¬ (0:Int)<= -1:=by omega
 unfold OC dnK dnI dnS dnO loA;rw[e,f,VX n,VX n,VX n,VX n,VW j0,VW j0,VW j0]
theorem ow4 {sp lg:aa}{a i j:Int}(h:upto (cZ (BI sp a)) i)(h1:(sp.length:Int)<=i)(g:upto (cZ (BG lg a)) j)(j1:(lg.length:Int)<=j):
 owL 0 0 0 0=OC sp lg a:=by
 have e:=RL h h1;have f:=acY g j1;have n:¬ (0:Int)<= -1:=by omega
 unfold OC dnK dnI dnS dnO;rw[e,f,VX n,VX n,VX n,VX n,VX n,VX n,VX n]
theorem Pq {sp lg:aa}{a:Int}(h:layOk sp lg=true):OC sp lg a=dzL sp lg a:=by
 unfold dzL OC dzK dzI dzS dzO;rw[VW h,VW h,VW h,VW h]
theorem ag0 {sp lg:aa}{a:Int}(h:layOk sp lg=false):owL 0 0 0 0=dzL sp lg a:=by
 have n:¬ layOk sp lg=true:=by rw[h];decide
 unfold dzL dzK dzI dzS dzO;rw[VX n,VX n,VX n,VX n]
end Go.V
namespace Go.V
def yi (sp lg:aa)(a:Int):Bool:=decide (dzO sp lg a=0)&&(decide (dzK sp lg a=1)||decide (dzK sp lg a=3))
def OE (sp lg:aa):Nat->aa
 |0=>[]
 |n+1=>OE sp lg n++(if yi sp lg n then[[.i n]]else[])
def laL (sp lg:aa):aa:=if layOk sp lg then OE sp lg 512 else[]
structure OQ (sp lg:aa)(i:Int)(o:aa):Prop where
 e:o=OE sp lg i.toNat
 l:o.length<=i.toNat
 y:0<i->layOk sp lg=true
theorem ahs {sp lg:aa}:OQ sp lg 0 []:=⟨rfl,Zd _,fun h=>absurd h (by omega)⟩
theorem ME {sp lg:aa}{i:Int}(h:0<=i):OE sp lg (i+1).toNat=OE sp lg i.toNat++(if yi sp lg i then[[.i i]]else[]):=by
 rw[show(i+1).toNat=i.toNat+1 from by omega,OE,Zt h]
theorem MG {sp lg o:aa}{i:Int}(h:OQ sp lg i o)(h0:0<=i)(hl:layOk sp lg=true)(hv:yi sp lg i=true):OQ sp lg (i+1) (o++[[.i i]]):=by
 have e:=h.e;have l:=h.l;refine⟨by rw[ME h0,VW hv, <-e],?_,fun _=>hl⟩;rw[Ze,Zn,List.length_nil];omega
theorem Se {sp lg o:aa}{i:Int}(h:OQ sp lg i o)(h0:0<=i)(hl:layOk sp lg=true)(hv:yi sp lg i=false):OQ sp lg (i+1) o:=by
 have e:=h.e;have l:=h.l;refine⟨by rw[ME h0,hv, <-e];simp,?_,fun _=>hl⟩;omega
theorem abl {sp lg o:aa}{i:Int}(h:OQ sp lg i o)(h1:i<=512)(h2:512<=i):o=laL sp lg:=by
 have e:i=512:=by omega
 subst e;unfold laL;rw[VW (h.y (by omega))];exact h.e
theorem abk {sp lg o:aa}{i:Int}(h:OQ sp lg i o)(h0:0<=i)(hl:layOk sp lg=false):o=laL sp lg:=by
 have z:i=0:=by
  by_cases c:0<i
  ·have:=h.y c;rw[hl]at this;cases this
  ·omega
 subst z;unfold laL;rw[hl];exact h.e
theorem aef {sp lg:aa}{a:Int}(h:dzO sp lg a=0)(k:dzK sp lg a=1):yi sp lg a=true:=by unfold yi;rw[h,k];rfl
theorem aeg {sp lg:aa}{a:Int}(h:dzO sp lg a=0)(k:dzK sp lg a=3):yi sp lg a=true:=by unfold yi;rw[h,k];rfl
theorem aec {sp lg:aa}{a:Int}(h:dzO sp lg a≠0):yi sp lg a=false:=by unfold yi;rw[VU h];rfl
theorem aed {sp lg:aa}{a:Int}(h:dzK sp lg a≠1)(k:dzK sp lg a≠3):yi sp lg a=false:=by unfold yi;rw[VU h,VU k,Bool.or_false,Yb]
theorem vR {a b:aa}(h:a=b):[DV.one (.s 1 a)]=[DV.one (.s 1 b)]:=by rw[h]
end Go.V