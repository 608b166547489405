/- Plain facts. -/
import Derived.Test.YtbedjnlfdopeeaaGreatYVE
set_option linter.all false
open Go
open Bool renaming and_eq_true->Zc,or_eq_true->Z7,and_false->Z8
open Int renaming toNat_of_nonneg->Zq,toNat_natCast->Zx,le_refl->Ye
open IntKind renaming has->VC,wrap->YP,bits->WE,signed->WF,i64->Za
open IntWalk renaming i64_in->Xp
open List renaming range->Zl,mem_range->Yc,length_append->Zd,mem_cons->Zn,length_cons->Zp,getD_eq_getElem?_getD->Zr,getElem?_eq_getElem->Zu,take->Yo,drop->Yz,find?_range_eq_some->Xr,find?_range_eq_none->X9,mem_append->Zg,append_assoc->Zj,nodup_append->Zw,nodup_nil->ZR
open Nat renaming le_refl->Ze
open Value renaming int->Zm
namespace Go.V
theorem vI {n:Int}(h:VC Za n): -9223372036854775808<=n/\n<=9223372036854775807:=h
theorem cQ {i:Int}(h0:0<=i)(h1:i<9223372036854775807):bO .add Za i 1=i+1:=bF (by omega)
def inR (x a b:Int):Bool:=decide (a<=x)&&decide (x<=b)
theorem bA {x a b:Int}:inR x a b=true↔a<=x/\x<=b:=by simp[inR]
theorem Ar {x a b:Int}:inR x a b=false↔x<a\/b<x:=by
 cases h:inR x a b
 ·simp only[true_iff];unfold inR at h;simp only[Bool.and_eq_false_iff,decide_eq_false_iff_not]at h;omega
 ·rw[bA]at h;constructor
  ·intro q;cases q
  ·omega
def cI (p:Int->Bool)(n:Nat):Bool:=(Zl n).all fun j=>p (j:Int)
def upto (p:Int->Bool)(i:Int):Prop:=∀ j:Int,0<=j->j<i->p j=true
theorem bB {p:Int->Bool}:upto p 0:=fun j h0 h1=>absurd h1 (by omega)
theorem aV {p:Int->Bool}{i:Int}(h:upto p i)(hp:p i=true):upto p (i+1):=fun j h0 h1=>by
 by_cases q:j=i
 ·subst q;exact hp
 ·exact h j h0 (by omega)
theorem dL {p:Int->Bool}{n:Nat}:cI p n=true↔upto p n:=by
 simp only[cI,List.all_eq_true,Yc];exact⟨fun h j h0 h1=>by have:=h j.toNat (by omega);rwa [Zq h0]at this,fun h x hx=>h x (by omega) (by omega)⟩
theorem bM {p:Int->Bool}{n:Nat}{i:Int}(h:upto p i)(hi:(n:Int)<=i):cI p n=true:=dL.2 fun j h0 h1=>h j h0 (by omega)
theorem bW {p:Int->Bool}{n:Nat}{i:Int}(h0:0<=i)(h:i<n)(hp:p i=false):cI p n=false:=by
 cases q:cI p n
 ·rfl
 ·rw[dL.1 q i h0 h]at hp;cases hp
theorem hE {a b:Bool}(h:a=true↔b=true):a=b:=by cases a<;>cases b<;>simp_all
theorem ak {a b:Bool}(h:a=b):[DV.k a]=[DV.k b]:=by rw[h]
def nG (cs us:af)(i k:Int):Bool:=inR (ah (ax cs i 0) k 0) 0 999&&(sn us i 0||decide (ah (ax cs i 0) k 0=0))
def ir (cs us:af)(i:Int):Bool:=decide ((ax cs i 0).length=16)&&cI (nG cs us i) 16
def framesOk (cs us:af):Bool:=inR cs.length 1 32&&decide (us.length=cs.length)&&cI (ir cs us) cs.length
def qO (es:af)(fr i:Int):Bool:=inR (ah es i 0) 0 2&&decide (ah es i 0=0->ah es i 1=0)&&decide (0<ah es i 0->0<=ah es i 1/\ah es i 1<fr)
def tableOk (es:af)(fr:Int):Bool:=cI (qO es fr) es.length&&inR es.length 1 32
def ye (es:af)(f:Int):Nat->af
 |0=>[]
 |n+1=>if ah es n 0≠0/\ah es n 1=f then ye es f n++[[.i n]]else ye es f n
def pagesOn (es:af)(f:Int):af:=ye es f es.length
theorem Ec {es:af}{f:Int}:∀ {n:Nat},(ye es f n).length<=n
 |0=>Nat.zero_le _
 | n+1=>by
   have:=Ec (es:=es) (f:=f) (n:=n);unfold ye;split
   ·rw[Zd];simp;omega
   ·omega
theorem Jh {es:af}{f:Int}{n:Nat}(h0:ah es n 0≠0)(h1:ah es n 1=f):ye es f (n+1)=ye es f n++[[.i n]]:=by rw[ye,VR ⟨h0,h1⟩]
theorem MQ {es:af}{f:Int}{n:Nat}(h:ah es n 0=0\/ah es n 1≠f):ye es f (n+1)=ye es f n:=by rw[ye,VT (by rintro⟨a,b⟩;rcases h with q|q;exact a q;exact q b)]
theorem Pp {es:af}{f i:Int}(hi:0<=i)(h0:ah es i 0≠0)(h1:ah es i 1=f):ye es f (i+1).toNat=ye es f i.toNat++[[.i i]]:=by
 have e:((i.toNat:Nat):Int)=i:=Zq hi;rw[show(i+1).toNat=i.toNat+1 from by omega,Jh (by rw[e];exact h0) (by rw[e];exact h1),e]
theorem MP {es:af}{f i:Int}(hi:0<=i)(h:ah es i 0=0\/ah es i 1≠f):ye es f (i+1).toNat=ye es f i.toNat:=by
 have e:((i.toNat:Nat):Int)=i:=Zq hi;rw[show(i+1).toNat=i.toNat+1 from by omega,MQ (by rw[e];exact h)]
theorem CN {es:af}{f:Int}:(pagesOn es f).length<=es.length:=Ec
def gJ (es:af)(f:Int):Bool:=decide (0<(pagesOn es f).length)
theorem D1 {es:af}{f:Int}:gJ es f=true↔0<(pagesOn es f).length:=by simp[gJ]
theorem Tl {cs us:af}(h:inR cs.length 1 32=false):framesOk cs us=false:=by unfold framesOk;rw[h];rfl
theorem Tm {cs us:af}(h:us.length≠cs.length):framesOk cs us=false:=by unfold framesOk;rw[VP h];simp
theorem Tn {cs us:af}{i:Int}(h0:0<=i)(h1:i<cs.length)(h:(ax cs i 0).length≠16):framesOk cs us=false:=by
 unfold framesOk;rw[bW h0 h1 (by unfold ir;rw[VP h];rfl)];simp
theorem Ls {cs us:af}{i k:Int}(h0:0<=i)(h1:i<cs.length)(k0:0<=k)(k1:k<16)(h:inR (ah (ax cs i 0) k 0) 0 999=false\/sn us i 0=false/\ah (ax cs i 0) k 0≠0):framesOk cs us=false:=by
 unfold framesOk;rw[bW h0 h1 (by unfold ir;rw[bW k0 (by simpa using k1) (by unfold nG;rcases h with q|⟨q,q'⟩;rw[q];rfl;rw[q,VP q'];simp)];simp)];simp
theorem Lt {cs us:af}{i:Int}(h1:inR cs.length 1 32=true)(h2:us.length=cs.length)(h:upto (ir cs us) i)(hi:(cs.length:Int)<=i):framesOk cs us=true:=by
 unfold framesOk;rw[h1,VO h2,bM h hi];rfl
theorem QS {cs us:af}{i k:Int}(hl:(ax cs i 0).length=16)(h:upto (nG cs us i) k)(hk:16<=k):ir cs us i=true:=by
 unfold ir;rw[VO hl,bM h (by simpa using hk)];rfl
theorem QD {cs us:af}{i k:Int}(h:inR (ah (ax cs i 0) k 0) 0 999=true)(h':sn us i 0=true\/ah (ax cs i 0) k 0=0):nG cs us i k=true:=by
 unfold nG;rw[h];rcases h' with q|q
 ·rw[q];rfl
 ·rw[VO q];simp
theorem HU {k:Nat}{a b:af}(h:a=b):[DV.one (.s k a)]=[DV.one (.s k b)]:=by rw[h]
theorem aeJ {es:af}{n i:Int}(h0:0<=i)(h1:i<es.length)(h:¬ (0<=ah es i 0/\ah es i 0<=2/\(ah es i 0=0->ah es i 1=0)/\(0<ah es i 0->0<=ah es i 1/\ah es i 1<n))):tableOk es n=false:=by
 unfold tableOk;rw[bW h0 h1];rfl;cases q:qO es n i;rfl
 ·refine absurd ?_ h;unfold qO at q;simp only[Zc,VQ,bA]at q;exact⟨q.1.1.1,q.1.1.2,q.1.2,q.2⟩
theorem RN {es:af}{n i:Int}(h:0<=ah es i 0/\ah es i 0<=2/\(ah es i 0=0->ah es i 1=0)/\(0<ah es i 0->0<=ah es i 1/\ah es i 1<n)):qO es n i=true:=by
 unfold qO;simp only[Zc,VQ,bA];exact⟨⟨⟨h.1,h.2.1⟩,h.2.2.1⟩,h.2.2.2⟩
theorem Nr {es:af}{n i:Int}(h:upto (qO es n) i)(hi:(es.length:Int)<=i):tableOk es n=inR es.length 1 32:=by unfold tableOk;rw[bM h hi];rfl
theorem A6 {es:af}{n:Int}(h:tableOk es n=true):1<=es.length/\es.length<=32:=by
 unfold tableOk at h;simp only[Zc,bA]at h;omega
theorem aeI {es:af}{n i:Int}(h:tableOk es n=true)(h0:0<=i)(h1:i<es.length):0<=ah es i 0/\ah es i 0<=2/\(ah es i 0=0->ah es i 1=0)/\(0<ah es i 0->0<=ah es i 1/\ah es i 1<n):=by
 unfold tableOk at h;simp only[Zc]at h;have q:=dL.1 h.1 i h0 h1;unfold qO at q;simp only[Zc,VQ,bA]at q;exact⟨q.1.1.1,q.1.1.2,q.1.2,q.2⟩
theorem vH {cs us:af}(h:framesOk cs us=true):us.length=cs.length/\1<=cs.length/\cs.length<=32:=by
 unfold framesOk at h;simp only[Zc,VQ,bA]at h;omega
theorem acg {cs us:af}{i:Int}(h:framesOk cs us=true)(h0:0<=i)(h1:i<cs.length):(ax cs i 0).length=16:=by
 unfold framesOk at h;simp only[Zc,VQ,bA]at h;have q:=dL.1 h.2 i h0 h1;unfold ir at q;simp only[Zc,VQ]at q;exact q.1
end Go.V
namespace Go.V
theorem CO {a n:Int}(h0:0<=a)(h1:a<=9223372036854775807)(hn:0<n):bO .quo Za a n=a/n:=by
 show YP Za (a.tdiv n)=_;rw[Int.tdiv_eq_ediv_of_nonneg h0];have h2:0<=a/n:=Int.ediv_nonneg h0 (by omega);have h3:a/n<=a:=Int.ediv_le_self _ h0;exact Xp _ (by omega)
theorem FY {a n:Int}(h0:0<=a):bO .rem Za a n=a%n:=Int.tmod_eq_emod_of_nonneg h0
theorem IY {a:af}{f:Int}:dB .gtr (pagesOn a f).length 0=gJ a f:=hE (by rw[D1];simp only[SS];omega)
theorem Pd {a:af}{f:Int}(h:(pagesOn a f).length=0):gJ a f=false:=by unfold gJ;rw[h];rfl
theorem Qs {a b a' b':Int}(h:a=a')(h':b=b'):[DV.agg [.i a,.i b]]=[DV.agg [.i a',.i b']]:=by rw[h,h']
theorem sE {a b a' b':Int}(h:a=a')(h':b=b'):[DV.j a,DV.j b]=[DV.j a',DV.j b']:=by rw[h,h']
theorem cv {a b:Int}(h:a=b):[DV.j a]=[DV.j b]:=by rw[h]
def peM (es:af)(p:Int):Int:=if 0<=p/\p<es.length then ah es p 0 else 0
def peF (es:af)(p:Int):Int:=if 0<=p/\p<es.length then ah es p 1 else 0
theorem MN {es:af}{p:Int}(h:0<=p/\p<es.length):peM es p=ah es p 0/\peF es p=ah es p 1:=by unfold peM peF;rw[VR h,VR h];exact⟨rfl,rfl⟩
theorem Jf {es:af}{p:Int}(h:¬ (0<=p/\p<es.length)):peM es p=0/\peF es p=0:=by unfold peM peF;rw[VT h,VT h];exact⟨rfl,rfl⟩
def leM (es:af)(a:Int):Int:=if a<0 then 0 else peM es (a/16)
def leF (es:af)(a:Int):Int:=if a<0 then 0 else peF es (a/16)
end Go.V
namespace Go.V
theorem jt {fs:List Ty}{es:af}{i:Int}(h:Rw [.sl fs] es)(h0:0<=i)(h1:i<es.length):es.take (i+1).toNat=es.take i.toNat++[[.s fs.length (ax es i 0)]]:=by
 rw[show(i+1).toNat=i.toNat+1 from by omega,fL (d:=[]) (show i.toNat<es.length by omega)];have e:=h.eta h0 h1;rw[e];rfl
theorem rY {fs:List Ty}{es:af}{i:Int}(h:Rw [.sl fs] es)(h0:0<=i)(h1:i<es.length):am (ax es i 0)+es.length<=am es:=by
 have e:=h.eta h0 h1;have h2:=dx (es:=es) (n:=i.toNat) (by omega);have h3:=bR (es:=es) (n:=i.toNat+1);rw[e]at h2;have h4:dC (mW ai es i 0 (zR [Ty.sl fs]))=am (ax es i 0):=by
  show dC [.s fs.length (ax es i 0)]=_;simp only[dC,gS,am];omega
 rw[h4]at h2;show _<=es.length+bN es;omega
theorem aw {es:af}:es.length<=am es:=Nat.le_add_right _ _
theorem js {es:af}{i:Int}(h:(es.length:Int)<=i):es.take i.toNat=es:=List.take_of_length_le (by omega)
def om (us es:af)(i:Int):Bool:=sn us i 0==gJ es i
def machOk (cs us es:af):Bool:=framesOk cs us&&tableOk es cs.length&&cI (om us es) cs.length
theorem I3 {cs us es:af}(h:framesOk cs us=false\/tableOk es cs.length=false):machOk cs us es=false:=by
 unfold machOk;rcases h with h|h<;>rw[h]<;>simp
theorem aaj {cs us es:af}(hf:framesOk cs us=true)(h:tableOk es us.length=false):machOk cs us es=false:=by
 rw[(vH hf).1]at h;exact I3 (.inr h)
theorem Mk {cs us es:af}{i:Int}(h0:0<=i)(h1:i<cs.length)(h:sn us i 0≠gJ es i):machOk cs us es=false:=by
 unfold machOk;rw[bW h0 h1 (by unfold om;simpa using h)];simp
theorem Mj {us es:af}{i:Int}(h:sn us i 0=gJ es i):om us es i=true:=by unfold om;simpa using h
theorem HC {cs us es:af}{i:Int}(h:framesOk cs us=true)(h2:tableOk es us.length=true)(hu:upto (om us es) i)(hi:(us.length:Int)<=i):machOk cs us es=true:=by
 rw[(vH h).1]at h2 hi;unfold machOk;rw[h,h2,bM hu hi];rfl
theorem Rj {cs us es:af}(q:machOk cs us es=true):framesOk cs us=true/\tableOk es cs.length=true/\∀ i:Int,0<=i->i<cs.length->sn us i 0=gJ es i:=by
 unfold machOk at q;simp only[Zc]at q;refine⟨q.1.1,q.1.2,fun i h0 h1=>?_⟩;have:=dL.1 q.2 i h0 h1;unfold om at this;simpa using this
def FO:List af->Int->List af
 |[],_=>[]
 |r::rs,k=>dW r k::FO rs (bg [r] k)
theorem Ay:∀ {rs:List af} {k k':Int},bg (FO rs k) k'=bg rs k'
 |[],_,_=>rfl
 | r::rs,k,k'=>by
   show bg (FO rs (bg [r] k)) (dP (dP r k).1 k').2=bg rs (dP r k').2;rw[fu];exact Ay
theorem Mh {rs:List af}(h:∀ r∈rs,(dP r 0).2<=(64*am r:Nat))(hc:aR rs<=1099511627776):bg rs 1<=1152921504606846976:=LV h (by omega) hc
theorem gz:∀ {rs:List af} {r:af} {n:Nat},aR rs<=n->r∈rs->am r<=n
 | a::rs,r,n,h,hr=>by
   simp only[aR]at h;rcases Zn.1 hr with rfl|q;omega;exact gz (rs:=rs) (by omega) q
end Go.V
namespace Go.V
theorem Ck:∀ {fs:List Ty} {e:ay},cg fs e->e.length=fs.length
 |[],[],_=>rfl
 |[],_::_,h=>h.elim
 |_::_,[],h=>h.elim
 |_::fs,_::e,h=>by simp only[Zp];rw[Ck h.2]
theorem Rw.wid {fs:List Ty}{es:af}(h:Rw fs es){n:Nat}(hn:n<es.length):(es.getD n []).length=fs.length:=Ck (h.at hn)
theorem Ci:∀ {es:af} {n:Nat} {e:ay},bN (es.set n e)<=bN es+dC e
 |[],_,_=>by simp[bN]
 |a::es,0,e=>by simp only[List.set_cons_zero,bN];omega
 | a::es,n+1,e=>by
   have:=Ci (es:=es) (n:=n) (e:=e);simp only[List.set_cons_succ,bN];omega
theorem Ff {es:af}{n:Nat}{e:ay}:am (es.set n e)<=am es+dC e:=by
 unfold am;rw[List.length_set];have:=Ci (es:=es) (n:=n) (e:=e);omega
theorem aeR {u:af}{i:Int}{b:Bool}(h:Rw [tB] u)(h0:0<=i)(h1:i<u.length):sH (.s 1 u) [(i.toNat,0)] [.v (.bool b)]=u.set i.toNat [.v (.bool b)]:=ny (by rw[h.wid (by omega)];rfl)
theorem Q0 {t:Ty}{u:af}{i:Int}(h:Rw [t] u)(h0:0<=i)(h1:i<u.length):∃ rec o',bX (.s 1 u) [(i.toNat,0)]=some (rec,o')/\o'+1<=rec.length:=gV (by omega) (by rw[h.wid (by omega)];exact Ze _)
end Go.V
namespace Go.V
def Nn (cs:af)(fr k v:Int):af:=cs.set fr.toNat [.s 1 ((ax cs fr 0).set k.toNat [.i v])]
theorem M6 {cs:af}{fr:Int}(h:Rw [.sl [tI]] cs)(h0:0<=fr)(h1:fr<cs.length):cs.getD fr.toNat []=[.s 1 (ax cs fr 0)]:=h.eta h0 h1
theorem sY {cs:af}{fr:Int}:pw (.s 1 cs) [(fr.toNat,0)]=ax cs fr 0:=uv
theorem SK {cs:af}{fr:Int}(h:Rw [.sl [tI]] cs)(h0:0<=fr)(h1:fr<cs.length):cs[fr.toNat]?=some [.s 1 (ax cs fr 0)]:=by
 have e:=M6 h h0 h1;rw[Zr,Zu (by omega)]at e;rw[Zu (by omega)];simpa using e
theorem OO {cs:af}{fr:Int}(h:Rw [.sl [tI]] cs)(h0:0<=fr)(h1:fr<cs.length):∃ rec o,bX (.s 1 cs) [(fr.toNat,0)]=some (rec,o)/\o+[L.s 1 []].length<=rec.length/\Yo [L.s 1 []].length (Yz o rec)=mH ai (.s 1 cs) [(fr.toNat,0)] 0 [L.s 1 []]:=by
 refine⟨[.s 1 (ax cs fr 0)],0,?_,Ze _,?_⟩
 ·show(cs[fr.toNat]?).map (·,0)=_;rw[SK h h0 h1];rfl
 ·show[L.s 1 (ax cs fr 0)]=[L.s 1 (pw (.s 1 cs) [(fr.toNat,0)])];rw[sY]
theorem Fy {cs:af}{fr:Int}(h:Rw [.sl [tI]] cs)(h0:0<=fr)(h1:fr<cs.length):∃ es,iB (.s 1 cs) [(fr.toNat,0)]=some (1,es):=by
 refine⟨ax cs fr 0,?_⟩;rw[yt (by omega),M6 h h0 h1];rfl
def smM (cs us es:af)(a:Int):Int:=if machOk cs us es=true then leM es a else 0
def smF (cs us es:af)(a:Int):Int:=if machOk cs us es=true then leF es a else 0
def stK (cs us es:af)(a v:Int):Int:=if smM cs us es a=0 then 1 else if smM cs us es a=1 then 2 else if inR v 0 999=true then 0 else 3
def stC (cs us es:af)(a v:Int):af:=if stK cs us es a v=0 then Nn cs (smF cs us es a) (a%16) v else cs
theorem ahi {cs us es:af}{a v:Int}(h:smM cs us es a=0):stK cs us es a v=1/\stC cs us es a v=cs:=by
 have:stK cs us es a v=1:=by unfold stK;rw[VR h]
 exact⟨this,by unfold stC;rw[this];rfl⟩
def clsSz (k:Int):Int:=if k=0 then 1 else if k=1 then 2 else if k=2 then 4 else if k=3 then 8 else 0
def clsOf (s:Int):Int:=if s<1 then-1 else if s<=1 then 0 else if s<=2 then 1 else if s<=4 then 2 else if s<=8 then 3 else-1
theorem abW {k:Int}(h:inR k 0 3=false):clsSz k=0:=by rw[Ar]at h;unfold clsSz;repeat' split<;>omega
theorem QE {k:Int}(h:inR k 0 3=true):PI .shl Za 1 k=clsSz k:=by
 rw[bA]at h;rcases(show k=0\/k=1\/k=2\/k=3 by omega)with rfl|rfl|rfl|rfl<;>decide
theorem QG {k:Int}(h:inR k 0 3=true):wrI .u64 k=k:=by
 rw[bA]at h;rcases(show k=0\/k=1\/k=2\/k=3 by omega)with rfl|rfl|rfl|rfl<;>decide
theorem QF {k s:Int}(h0:0<=k/\k<=3)(h:clsSz k<s)(hs:1<=s/\s<=8):k+1<=3:=by
 rcases(show k=0\/k=1\/k=2\/k=3 by omega)with rfl|rfl|rfl|rfl<;>simp[clsSz]at h<;>omega
theorem abV {s:Int}(h:s<1\/8<s):clsOf s= -1:=by unfold clsOf;repeat' split<;>omega
theorem SX {k s:Int}(h0:0<=k/\k<=3)(h:s<=clsSz k)(hs:1<=s/\s<=8)(hp:k=0\/clsSz (k-1)<s):clsOf s=k:=by
 rcases(show k=0\/k=1\/k=2\/k=3 by omega)with rfl|rfl|rfl|rfl<;>simp[clsSz]at h hp<;>unfold clsOf<;>repeat' split<;>omega
end Go.V
namespace Go.V
theorem rq {l:af}{i:Int}(h0:0<=i):GI (.s 1 l) [(i.toNat,0)]=ah l i 0:=by
 rw[HN];unfold ah;rw[Zx]
theorem ON {l:af}{i:Int}(h:Rw [tI] l)(h0:0<=i)(h1:i<l.length):∃ rec o,bX (.s 1 l) [(i.toNat,0)]=some (rec,o)/\o+[L.v (Zm Za 0)].length<=rec.length/\Yo [L.v (Zm Za 0)].length (Yz o rec)=mH ai (.s 1 l) [(i.toNat,0)] 0 [L.v (Zm Za 0)]:=by
 have e:l.getD i.toNat []=[L.i (ah l i 0)]:=h.eta h0 h1;rw[Zr,Zu (by omega)]at e;have e1:l[i.toNat]?=some [.i (ah l i 0)]:=by
  rw[Zu (by omega)];exact congrArg some e
 refine⟨[.i (ah l i 0)],0,?_,Ze _,?_⟩
 ·rw[mJ,e1];rfl
 ·show[L.i (ah l i 0)]=[L.i (GI (.s 1 l) [(i.toNat,0)])];rw[rq h0]
end Go.V
namespace Go.V
def wR (us:af)(j:Int):Bool:=sn us j 0
def freeI (us:af):Int:=match(Zl us.length).find? (fun j:Nat=> !sn us (j:Int) 0)with
 |some j=>(j:Int)
 |none=> -1
theorem free_at {us:af}{i:Int}(h:upto (wR us) i)(h0:0<=i)(h1:i<us.length)(h2:sn us i 0=false):freeI us=i:=by
 have e:((i.toNat:Nat):Int)=i:=Zq h0;have:(Zl us.length).find? (fun j:Nat=> !sn us (j:Int) 0)=some i.toNat:=by
  rw[Xr];refine⟨by rw[e,h2];rfl,Yc.2 (by omega),fun j hj=>?_⟩;have:=h j (by omega) (by omega);unfold wR at this;rw[this];rfl
 unfold freeI;rw[this];exact e
theorem IH {us:af}{i:Int}(h:upto (wR us) i)(h1:(us.length:Int)<=i):freeI us= -1:=by
 have:(Zl us.length).find? (fun j:Nat=> !sn us (j:Int) 0)=none:=by
  rw[X9];intro j hj;have:=h j (by omega) (by omega);unfold wR at this;rw[this];rfl
 unfold freeI;rw[this]
theorem t9 {us:af}:freeI us= -1\/0<=freeI us/\freeI us<us.length:=by
 unfold freeI;split
 ·rename_i j h;rw[Xr]at h;have:=Yc.1 h.2.1;omega
 ·exact .inl rfl
def ftB (cs us:af):Bool:=framesOk cs us&&decide (0<=freeI us)
def ftI (cs us:af):Int:=if ftB cs us=true then freeI us else-1
def ftU (cs us:af):af:=if ftB cs us=true then us.set (freeI us).toNat [.v (.bool true)]else us
theorem QZ {cs us:af}(h:framesOk cs us=false\/freeI us= -1):ftB cs us=false/\ftI cs us= -1/\ftU cs us=us:=by
 have:ftB cs us=false:=by
  unfold ftB;rcases h with h|h
  ·rw[h];rfl
  ·rw[h];simp
 unfold ftI ftU;rw[this];exact⟨rfl,rfl,rfl⟩
theorem Lx {cs us:af}{i:Int}(hf:framesOk cs us=true)(h0:0<=i)(h:freeI us=i):ftB cs us=true/\ftI cs us=i/\ftU cs us=us.set i.toNat [.v (.bool true)]:=by
 have:ftB cs us=true:=by unfold ftB;rw[hf,h,VO h0];rfl
 unfold ftI ftU;rw[this,h];exact⟨rfl,rfl,rfl⟩
theorem Lw {a b a' b':af}{i i':Int}{x y:Bool}(h1:a=a')(h2:b=b')(h3:i=i')(h4:x=y):[DV.agg [.s 1 a,.s 1 b],DV.j i,DV.k x]=[DV.agg [.s 1 a',.s 1 b'],DV.j i',DV.k y]:=by rw[h1,h2,h3,h4]
theorem aci {cs us:af}(h:ftB cs us=true):0<=ftI cs us/\ftI cs us<cs.length/\ftI cs us=freeI us/\ftU cs us=us.set (freeI us).toNat [.v (.bool true)]:=by
 have hf:framesOk cs us=true/\0<=freeI us:=by unfold ftB at h;simpa using h
 have q:=Lx hf.1 hf.2 rfl;have hb:=t9 (us:=us);have hl:=vH hf.1;rw[q.2.1,q.2.2];exact⟨hf.2,by omega,rfl,rfl⟩
theorem Ir {fs:List Ty}{cs:af}{fr:Int}(h:Rw [.sl fs] cs)(h0:0<=fr)(h1:fr<cs.length):cs[fr.toNat]?=some [.s fs.length (ax cs fr 0)]:=by
 have e:cs.getD fr.toNat []=[.s fs.length (ax cs fr 0)]:=h.eta h0 h1;rw[Zr,Zu (by omega)]at e;rw[Zu (by omega)];simpa using e
theorem Ed {es:af}{f:Int}:∀ {n:Nat} {e:ay},e∈ye es f n->∃ k:Nat,k<n/\e=[.i k]
 |0,e,h=>by cases h
 | n+1,e,h=>by
   unfold ye at h;split at h
   ·rcases Zg.1 h with q|q
    ·obtain⟨k,hk,e⟩:=Ed q;exact⟨k,by omega,e⟩
    ·rw[List.mem_singleton]at q;exact⟨n,by omega,q⟩
   ·obtain⟨k,hk,e⟩:=Ed h;exact⟨k,by omega,e⟩
theorem ML {es:af}{f:Int}(h:es.length<=1099511627776):Rw [tI] (pagesOn es f):=by
 have hl:=CN (es:=es) (f:=f);refine⟨by simp[maxLen];omega,fun e he=>?_⟩;obtain⟨k,hk,rfl⟩:=Ed he;exact⟨⟨rfl,(show-9223372036854775808<=(k:Int)/\(k:Int)<=9223372036854775807 by omega)⟩,trivial⟩
end Go.V
namespace Go.V
def cP (p:Int->Bool)(n:Nat):Int:=match(Zl n).find? (fun j:Nat=>p (j:Int))with
 |some j=>(j:Int)
 |none=> -1
def bT (p:Int->Bool)(j:Int):Bool:= !p j
theorem iD {p:Int->Bool}{i:Int}(h:p i=false):bT p i=true:=by unfold bT;rw[h];rfl
theorem eD {p:Int->Bool}{n:Nat}{i:Int}(h:upto (bT p) i)(h0:0<=i)(h1:i<n)(h2:p i=true):cP p n=i:=by
 have e:((i.toNat:Nat):Int)=i:=Zq h0;have:(Zl n).find? (fun j:Nat=>p (j:Int))=some i.toNat:=by
  rw[Xr];refine⟨by rw[e];exact h2,Yc.2 (by omega),fun j hj=>?_⟩;exact h j (by omega) (by omega)
 unfold cP;rw[this];exact e
theorem eE {p:Int->Bool}{n:Nat}{i:Int}(h:upto (bT p) i)(h1:(n:Int)<=i):cP p n= -1:=by
 have:(Zl n).find? (fun j:Nat=>p (j:Int))=none:=by
  rw[X9];intro j hj;exact h j (by omega) (by omega)
 unfold cP;rw[this]
theorem qQ {p:Int->Bool}{n:Nat}:cP p n= -1\/0<=cP p n/\cP p n<n:=by
 unfold cP;split
 ·rename_i j h;rw[Xr]at h;have:=Yc.1 h.2.1;omega
 ·exact .inl rfl
def eqB (a b:Int):Bool:=decide (a=b)
theorem wt {a b:Int}(h:a=b):eqB a b=true:=VO h
theorem wq {a b:Int}(h:a≠b):eqB a b=false:=VP h
end Go.V
namespace Go.V
def B8 (f:Int->Int):Nat->Int
 |0=>0
 |n+1=>bO .add Za (B8 f n) (f n)
theorem PV {f:Int->Int}{i:Int}(h:0<=i):B8 f (i+1).toNat=bO .add Za (B8 f i.toNat) (f i):=by
 have e:((i.toNat:Nat):Int)=i:=Zq h;rw[show(i+1).toNat=i.toNat+1 by omega,B8,e]
def szF (os:af)(i:Int):Int:=ah os i 2
def lsI (os:af):Int:=B8 (szF os) os.length
def Ht (os:af)(a j:Int):Bool:=eqB (ah os j 1) a
def obI (os:af)(a:Int):Int:=cP (Ht os a) os.length
def isSp (ss:af)(p j:Int):Bool:=eqB (ah ss j 0) p
def spI (ss:af)(p:Int):Int:=cP (isSp ss p) ss.length
end Go.V
namespace Go.V
def Cg (x:Int):BitVec 64:=BitVec.ofInt 64 x
theorem P3 (x:BitVec 64):YP Za (x.toNat:Int)=x.toInt:=by
 have h:=x.isLt;rw[BitVec.toInt_eq_toNat_cond];simp only[YP,WE,WF,Bool.true_and,VQ,show(64-1:Nat)=63 from rfl];split<;>split<;>omega
theorem MD {a b:Int}:bO .or Za a b=(Cg a|||Cg b).toInt:=P3 _
theorem SP {x:BitVec 64}:Cg x.toInt=x:=BitVec.ofInt_toInt
theorem LS {a:Int}(h: -9223372036854775808<=a/\a<=9223372036854775807):(Cg a).toInt=a:=by
 unfold Cg;rw[BitVec.toInt_ofInt,Int.bmod_def];split<;>omega
def fpg (es:af)(p:Int):af:=if peM es p=0 then[]else pagesOn es (peF es p)
theorem Lr {es:af}{p:Int}(h:peM es p=0):fpg es p=[]:=by unfold fpg;rw[VR h]
theorem IG {es:af}{p:Int}(h:peM es p≠0):fpg es p=pagesOn es (peF es p):=by unfold fpg;rw[VT h]
theorem Hf {es:af}{p:Int}(h:es.length<=1099511627776):Rw [tI] (fpg es p)/\(fpg es p).length<=1099511627776:=by
 unfold fpg;split;exact⟨Rw.nil,by simp⟩;exact⟨ML h,Nat.le_trans CN h⟩
def Kn (l:af)(x j:Int):Bool:=eqB x (ah l j 0)
def idxI (l:af)(x:Int):Int:=cP (Kn l x) l.length
def hasB (l:af)(x:Int):Bool:=decide (0<=idxI l x)
theorem CB {l:af}{x:Int}:hasB l x=true↔∃ k:Nat,k<l.length/\ah l k 0=x:=by
 unfold hasB idxI;rw[VQ]
 constructor
 ·intro h;unfold cP at h;split at h
  ·rename_i j hj;rw[Xr]at hj;refine⟨j,Yc.1 hj.2.1,?_⟩;have:=hj.1;unfold Kn eqB at this;exact(VU this).symm
  ·omega
 ·rintro⟨k,hk,e⟩;rcases qQ (p:=Kn l x) (n:=l.length)with q|q
  ·exfalso;unfold cP at q;split at q
   ·omega
   ·rename_i hn;rw[X9]at hn;have:=hn k hk;unfold Kn eqB at this;rw[e]at this;simp at this
  ·exact q.1
def Ev (ss l:af)(b:Int):Nat->Int
 |0=>b
 |n+1=>if hasB l (ah ss n 0)=true then bO .or Za (Ev ss l b n) (ah ss n 2)else Ev ss l b n
def E2 (ss:af)(x b:Int):Nat->Int
 |0=>b
 |n+1=>if ah ss n 0=x then bO .or Za (E2 ss x b n) (ah ss n 2)else E2 ss x b n
def Kd (ss l:af)(b:Int):Nat->Int
 |0=>b
 |k+1=>E2 ss (ah l k 0) (Kd ss l b k) ss.length
theorem P0 {ss l:af}{b i:Int}(h:0<=i)(q:hasB l (ah ss i 0)=true):Ev ss l b (i+1).toNat=bO .or Za (Ev ss l b i.toNat) (ah ss i 2):=by
 have e:((i.toNat:Nat):Int)=i:=Zq h;rw[show(i+1).toNat=i.toNat+1 by omega,Ev,e,VR q]
theorem aa5 {ss l:af}{b i:Int}(h:0<=i)(q:hasB l (ah ss i 0)=false):Ev ss l b (i+1).toNat=Ev ss l b i.toNat:=by
 have e:((i.toNat:Nat):Int)=i:=Zq h;rw[show(i+1).toNat=i.toNat+1 by omega,Ev,e,q];rfl
theorem P1 {ss:af}{x b i:Int}(h:0<=i)(q:ah ss i 0=x):E2 ss x b (i+1).toNat=bO .or Za (E2 ss x b i.toNat) (ah ss i 2):=by
 have e:((i.toNat:Nat):Int)=i:=Zq h;rw[show(i+1).toNat=i.toNat+1 by omega,E2,e,VR q]
theorem aa6 {ss:af}{x b i:Int}(h:0<=i)(q:ah ss i 0≠x):E2 ss x b (i+1).toNat=E2 ss x b i.toNat:=by
 have e:((i.toNat:Nat):Int)=i:=Zq h;rw[show(i+1).toNat=i.toNat+1 by omega,E2,e,VT q]
theorem aa7 {ss l:af}{b i:Int}(h:0<=i):Kd ss l b (i+1).toNat=E2 ss (ah l i 0) (Kd ss l b i.toNat) ss.length:=by
 have e:((i.toNat:Nat):Int)=i:=Zq h;rw[show(i+1).toNat=i.toNat+1 by omega,Kd,e]
def MY (a:Int):Prop:= -9223372036854775808<=a/\a<=9223372036854775807
theorem aaG {x:BitVec 64}:MY x.toInt:=by
 have h1:=x.toInt_lt;have h2:=x.le_toInt;unfold MY;omega
theorem MZ {a b:Int}:MY (bO .or Za a b):=by rw[MD];exact aaG
theorem RO {ss l:af}{b:Int}(h:MY b):∀ {n:Nat},MY (Ev ss l b n)
 |0=>h
 |n+1=>by unfold Ev;split;exact MZ;exact RO h
theorem RP {ss:af}{x b:Int}(h:MY b):∀ {n:Nat},MY (E2 ss x b n)
 |0=>h
 |n+1=>by unfold E2;split;exact MZ;exact RP h
theorem RQ {ss l:af}{b:Int}(h:MY b):∀ {n:Nat},MY (Kd ss l b n)
 |0=>h
 |n+1=>by unfold Kd;exact RP (RQ h)
theorem KR {a b:Int}{t:Nat}:(Cg (bO .or Za a b)).getLsbD t=((Cg a).getLsbD t||(Cg b).getLsbD t):=by
 rw[MD,SP,BitVec.getLsbD_or]
theorem abD {ss l:af}{b:Int}{t:Nat}:∀ {n:Nat},(Cg (Ev ss l b n)).getLsbD t=true↔(Cg b).getLsbD t=true\/∃ j:Nat,j<n/\hasB l (ah ss j 0)=true/\(Cg (ah ss j 2)).getLsbD t=true
 |0=>by simp[Ev]
 | n+1=>by
   have ih:=abD (ss:=ss) (l:=l) (b:=b) (t:=t) (n:=n);unfold Ev;by_cases c:hasB l (ah ss n 0)=true
   ·rw[VR c,KR,Z7,ih]
    constructor
    ·rintro((h|⟨j,h1,h2,h3⟩)|h);exact .inl h;exact .inr ⟨j,by omega,h2,h3⟩;exact .inr ⟨n,by omega,c,h⟩
    ·rintro(h|⟨j,h1,h2,h3⟩);exact .inl (.inl h)
     ·rcases(show j<n\/j=n by omega)with q|rfl
      ·exact .inl (.inr ⟨j,q,h2,h3⟩)
      ·exact .inr h3
   ·rw[VT c,ih]
    constructor
    ·rintro(h|⟨j,h1,h2,h3⟩);exact .inl h;exact .inr ⟨j,by omega,h2,h3⟩
    ·rintro(h|⟨j,h1,h2,h3⟩);exact .inl h
     ·rcases(show j<n\/j=n by omega)with q|rfl
      ·exact .inr ⟨j,q,h2,h3⟩
      ·exact absurd h2 c
theorem abE {ss:af}{x b:Int}{t:Nat}:∀ {n:Nat},(Cg (E2 ss x b n)).getLsbD t=true↔(Cg b).getLsbD t=true\/∃ j:Nat,j<n/\ah ss j 0=x/\(Cg (ah ss j 2)).getLsbD t=true
 |0=>by simp[E2]
 | n+1=>by
   have ih:=abE (ss:=ss) (x:=x) (b:=b) (t:=t) (n:=n);unfold E2;by_cases c:ah ss n 0=x
   ·rw[VR c,KR,Z7,ih]
    constructor
    ·rintro((h|⟨j,h1,h2,h3⟩)|h);exact .inl h;exact .inr ⟨j,by omega,h2,h3⟩;exact .inr ⟨n,by omega,c,h⟩
    ·rintro(h|⟨j,h1,h2,h3⟩);exact .inl (.inl h)
     ·rcases(show j<n\/j=n by omega)with q|rfl
      ·exact .inl (.inr ⟨j,q,h2,h3⟩)
      ·exact .inr h3
   ·rw[VT c,ih]
    constructor
    ·rintro(h|⟨j,h1,h2,h3⟩);exact .inl h;exact .inr ⟨j,by omega,h2,h3⟩
    ·rintro(h|⟨j,h1,h2,h3⟩);exact .inl h
     ·rcases(show j<n\/j=n by omega)with q|rfl
      ·exact .inr ⟨j,q,h2,h3⟩
      ·exact absurd h2 c
theorem abF {ss l:af}{b:Int}{t:Nat}:∀ {k:Nat},(Cg (Kd ss l b k)).getLsbD t=true↔(Cg b).getLsbD t=true\/∃ i j:Nat,i<k/\j<ss.length/\ah ss j 0=ah l i 0/\(Cg (ah ss j 2)).getLsbD t=true
 |0=>by simp[Kd]
 | k+1=>by
   have ih:=abF (ss:=ss) (l:=l) (b:=b) (t:=t) (k:=k);unfold Kd;rw[abE,ih]
   constructor
   ·rintro((h|⟨i,j,h1,h2,h3,h4⟩)|⟨j,h1,h2,h3⟩);exact .inl h;exact .inr ⟨i,j,by omega,h2,h3,h4⟩;exact .inr ⟨k,j,by omega,h1,h2,h3⟩
   ·rintro(h|⟨i,j,h1,h2,h3,h4⟩);exact .inl (.inl h)
    ·rcases(show i<k\/i=k by omega)with q|rfl
     ·exact .inl (.inr ⟨i,j,q,h2,h3,h4⟩)
     ·exact .inr ⟨j,h2,h3,h4⟩
theorem aeM {ss l:af}{b:Int}(h:MY b):Kd ss l b l.length=Ev ss l b ss.length:=by
 rw[<-LS (RQ (ss:=ss) (l:=l) h (n:=l.length)), <-LS (RO (ss:=ss) (l:=l) h (n:=ss.length))]
 congr 1
 refine BitVec.eq_of_getLsbD_eq fun t _=>hE ?_
 rw[abF,abD]
 constructor
 ·rintro(h|⟨i,j,h1,h2,h3,h4⟩);exact .inl h;exact .inr ⟨j,h2,CB.2 ⟨i,h1,h3.symm⟩,h4⟩
 ·rintro(h|⟨j,h1,h2,h3⟩);exact .inl h
  ·obtain⟨i,hi,e⟩:=CB.1 h2;exact .inr ⟨i,j,hi,h1,e.symm,h3⟩
def ubB (es ss:af)(i:Int):Int:=if inR i 0 (ss.length-1)=true then Ev ss (fpg es (ah ss i 0)) (ah ss i 2) ss.length else 0
theorem RR {es ss:af}{i:Int}(h:inR i 0 (ss.length-1)=false):ubB es ss i=0:=by unfold ubB;rw[h];rfl
theorem Ns {es ss:af}{i:Int}(h:inR i 0 (ss.length-1)=true):ubB es ss i=Ev ss (fpg es (ah ss i 0)) (ah ss i 2) ss.length:=by unfold ubB;rw[VR h]
theorem aaW {ss:af}{i:Int}(h:Rw [tI,tI,tI] ss)(h0:0<=i)(h1:i<ss.length):MY (ah ss i 2):=by
 have e:=h.at (n:=i.toNat) (by omega);rw[h.eta h0 h1]at e;have e':cg [tI,tI,tI] [.i (ah ss i 0),.i (ah ss i 1),.i (ah ss i 2)]:=e;exact e'.2.2.1.2
end Go.V
namespace Go.V
def slB (b i:Int):Bool:=decide (0<=b)&&inR i 0 15
def hsB (b i:Int):Bool:=slB b i&&decide (bO .and Za (PI .shr Za b i) 1=1)
theorem aaU {b i:Int}:slB b i=true↔0<=b/\0<=i/\i<=15:=by simp[slB,inR]
theorem acL {b i:Int}(h:slB b i=false):hsB b i=false:=by unfold hsB;rw[h];rfl
theorem Gy {i:Int}(h0:0<=i)(h1:i<=15):wrI .u64 i=i:=by
 show YP .u64 i=i;simp only[YP,WE,WF,Bool.false_and];rw[VT (by simp)];omega
end Go.V
namespace Go.V
def FT (rs:af)(i:Int):Bool:=decide (0<=ah rs i 0)
def rt (rs:af):Bool:=cI (FT rs) rs.length&&decide (rs.length<=40)
def kerOk (cs us es:af)(c:Int)(rs:af):Bool:=machOk cs us es&&inR c 0 100000&&rt rs
theorem M2 {rs:af}{i:Int}(h:0<=ah rs i 0):FT rs i=true:=VO h
theorem M3 {cs us es rs:af}{c i:Int}(h0:0<=i)(h1:i<rs.length)(h:ah rs i 0<0):kerOk cs us es c rs=false:=by
 unfold kerOk rt;rw[bW h0 h1 (by unfold FT;exact VP (by omega))];simp
theorem Py {rs:af}{i:Int}(h:upto (FT rs) i)(hi:(rs.length:Int)<=i)(hl:(rs.length:Int)<=40):rt rs=true:=by
 unfold rt;rw[bM h hi,VO (by omega)];rfl
theorem Px {rs:af}(hl:¬ (rs.length:Int)<=40):rt rs=false:=by
 unfold rt;rw[VP (by omega)];simp
theorem O3 {cs us es rs:af}{c:Int}(h1:machOk cs us es=true)(h2:inR c 0 100000=true)(h3:rt rs=true):kerOk cs us es c rs=true:=by unfold kerOk;rw[h1,h2,h3];rfl
theorem O1 {cs us es rs:af}{c:Int}(h1:machOk cs us es=false):kerOk cs us es c rs=false:=by unfold kerOk;rw[h1];rfl
theorem IP {cs us es rs:af}{c:Int}(h1:inR c 0 100000=false):kerOk cs us es c rs=false:=by unfold kerOk;rw[h1];simp
theorem O2 {cs us es rs:af}{c:Int}(h1:rt rs=false):kerOk cs us es c rs=false:=by unfold kerOk;rw[h1];simp
end Go.V
namespace Go.V
end Go.V
namespace Go.V
theorem Ld {a b:af}:am (a++b)=am a+am b:=by unfold am;rw[fO,Zd];omega
end Go.V
namespace Go.V
def slN (k:Int):Int:=if inR k 0 3=true then 16/clsSz k else 0
theorem Lb {k:Int}(h:inR k 0 3=true):k=0\/k=1\/k=2\/k=3:=by have:=bA.1 h;omega
theorem j8 {k:Int}(h:inR k 0 3=true):1<=clsSz k/\clsSz k<=8/\2<=slN k/\slN k<=16/\slN k*clsSz k=16:=by
 rcases Lb h with rfl|rfl|rfl|rfl<;>decide
theorem Ni {k:Int}(h:inR k 0 3=true):bO .quo Za 16 (clsSz k)=slN k:=by
 rcases Lb h with rfl|rfl|rfl|rfl<;>decide
theorem Nj {k:Int}(h:inR k 0 3=true):PI .shr Za 16 (wrI .u64 k)=slN k:=by
 rcases Lb h with rfl|rfl|rfl|rfl<;>decide
theorem HW {k:Int}(h:inR k 0 3=false):slN k=0:=by unfold slN;rw[h];rfl
def bmOk (n b:Int):Bool:=inR n 1 16&&inR b 0 (2^n.toNat-1)
theorem Nh {n:Int}(h:inR n 1 16=true):bO .sub Za (PI .shl Za 1 n) 1=2^n.toNat-1/\bO .sub Za (PI .shl Za 1 (wrI .u64 n)) 1=2^n.toNat-1/\0<=wrI .u64 n:=by
 have q:=bA.1 h;have:n=1\/n=2\/n=3\/n=4\/n=5\/n=6\/n=7\/n=8\/n=9\/n=10\/n=11\/n=12\/n=13\/n=14\/n=15\/n=16:=by omega
 rcases this with rfl|rfl|rfl|rfl|rfl|rfl|rfl|rfl|rfl|rfl|rfl|rfl|rfl|rfl|rfl|rfl<;>decide
theorem Qu {n b:Int}(h:inR n 1 16=false):bmOk n b=false:=by unfold bmOk;rw[h];rfl
theorem KT {n b:Int}(h:inR n 1 16=true):bmOk n b=inR b 0 (2^n.toNat-1):=by unfold bmOk;rw[h];rfl
def spOk (p k b:Int):Bool:=inR p 0 31&&bmOk (slN k) b
theorem KS {k b:Int}(h:inR k 0 3=false):bmOk (slN k) b=false:=by rw[HW h];rfl
theorem Nl {p k b:Int}(h:inR p 0 31=false):spOk p k b=false:=by unfold spOk;rw[h];rfl
theorem aaV {p k b:Int}(h:inR k 0 3=false):spOk p k b=false:=by unfold spOk;rw[KS h,Z8]
theorem Nm {p k b:Int}(h:inR p 0 31=true):spOk p k b=bmOk (slN k) b:=by unfold spOk;rw[h];rfl
theorem oz {p k b:Int}(h:spOk p k b=true):0<=p/\p<=31/\inR k 0 3=true/\bmOk (slN k) b=true:=by
 unfold spOk at h;simp only[Zc,bA]at h;refine⟨h.1.1,h.1.2,?_,h.2⟩;cases q:inR k 0 3
 ·rw[KS q]at h;exact absurd h.2 (by decide)
 ·rfl
theorem afW {k b:Int}(h:bmOk (slN k) b=true):0<=b/\b<=65535:=by
 unfold bmOk at h;simp only[Zc,bA]at h;have hn:(slN k).toNat<=16:=by omega
 have hp:(2:Int)^(slN k).toNat<=2^16:=by
  have:=Nat.pow_le_pow_right (show 0<2 by omega) hn
  exact_mod_cast this
 omega
def pfN (s:Int):Int:=if inR s 9 1000=true then(s+15)/16 else 0
theorem aaz {s:Int}(h:inR s 9 1000=true):bO .quo Za (bO .sub Za (bO .add Za s 16) 1) 16=pfN s:=by
 have q:=bA.1 h;have e1:bO .add Za s 16=s+16:=bF (by omega);have e2:bO .sub Za (s+16) 1=s+16-1:=di (by omega);unfold pfN;rw[VR h,e1,e2,CO (by omega) (by omega) (by omega),show s+16-1=s+15 from by omega]
theorem Rx {s:Int}(h:inR s 9 1000=false):pfN s=0:=by unfold pfN;rw[h];rfl
theorem mX {s:Int}(h:inR s 9 1000=true):1<=pfN s/\pfN s<=63/\s<=pfN s*16:=by
 have q:=bA.1 h;unfold pfN;rw[VR h];omega
theorem MO {s:Int}:0<pfN s↔inR s 9 1000=true:=by
 constructor
 ·intro h;cases q:inR s 9 1000
  ·rw[Rx q]at h;omega
  ·rfl
 ·intro h;have:=mX h;omega
def lgOk (p n s:Int):Bool:=inR s 9 1000&&(decide (n=pfN s)&&inR p 0 (32-n))
theorem L9 {p n s:Int}(h:inR s 9 1000=false):lgOk p n s=false:=by unfold lgOk;rw[h];rfl
theorem Ma {p n s:Int}(h:n≠pfN s):lgOk p n s=false:=by unfold lgOk;rw[VP h];simp
theorem Mb {p n s:Int}(h:inR s 9 1000=true)(h2:n=pfN s):lgOk p n s=inR p 0 (32-n):=by unfold lgOk;rw[h,VO h2];rfl
theorem oj {p n s:Int}(h:lgOk p n s=true):inR s 9 1000=true/\n=pfN s/\0<=p/\p<=32-n:=by
 unfold lgOk at h;simp only[Zc,VQ,bA]at h;exact⟨bA.2 h.1,h.2.1,h.2.2⟩
def GJ (p k b a:Int):Bool:=spOk p k b&&inR a (p*16) (p*16+15)
def saS (p k b a:Int):Int:=if GJ p k b a=true then(a-p*16)/clsSz k else-1
def saO (p k b a:Int):Int:=if GJ p k b a=true then(a-p*16)%clsSz k else-1
theorem CR {p k b a:Int}(h:GJ p k b a=false):saS p k b a= -1/\saO p k b a= -1:=by unfold saS saO;rw[h];exact⟨rfl,rfl⟩
theorem AY {p k b a:Int}(h:GJ p k b a=true):saS p k b a=(a-p*16)/clsSz k/\saO p k b a=(a-p*16)%clsSz k:=by unfold saS saO;rw[VR h,VR h];exact⟨rfl,rfl⟩
theorem F7 {p k b a:Int}:GJ p k b a=true↔spOk p k b=true/\p*16<=a/\a<=p*16+15:=by unfold GJ;rw[Zc,bA]
def Of (p k b s:Int):Bool:=spOk p k b&&inR s 0 (slN k-1)
def aaI (p k b s:Int):Int:=if Of p k b s=true then p*16+s*clsSz k else-1
def lhB (p n s a:Int):Bool:=lgOk p n s&&inR a (p*16) (p*16+s-1)
def loI (p n s a:Int):Int:=if lhB p n s a=true then a-p*16 else-1
theorem Md {p n s a:Int}(h:lgOk p n s=false):lhB p n s a=false:=by unfold lhB;rw[h];rfl
theorem HA {p n s a:Int}(h:lgOk p n s=true):lhB p n s a=inR a (p*16) (p*16+s-1):=by unfold lhB;rw[h];rfl
theorem adf {p n s a:Int}(h:lhB p n s a=false):loI p n s a= -1:=by unfold loI;rw[h];rfl
theorem aaf {p n s a:Int}(h:lhB p n s a=true):loI p n s a=a-p*16:=by unfold loI;rw[VR h]
theorem HE {a b:Int}(h: -9223372036854775808<=a*b/\a*b<=9223372036854775807):bO .mul Za a b=a*b:=Xp _ h
theorem adU {p:Int}(h:0<=p/\p<=31):bO .mul Za p 16=p*16/\bO .sub Za (bO .add Za (p*16) 16) 1=p*16+15:=by
 have e1:bO .mul Za p 16=p*16:=HE (by omega);have e2:bO .add Za (p*16) 16=p*16+16:=bF (by omega);have e3:bO .sub Za (p*16+16) 1=p*16+16-1:=di (by omega);rw[e1,e2,e3];omega
theorem PE {p k b a:Int}(h:spOk p k b=true)(h1:inR a (p*16) (p*16+15)=true):saS p k b a=bO .quo Za (bO .sub Za a (p*16)) (clsSz k)/\saO p k b a=bO .rem Za (bO .sub Za a (p*16)) (clsSz k):=by
 have t:=oz h;have q:=bA.1 h1;have c:=j8 t.2.2.1;have y:=AY (F7.2 ⟨h,q⟩);have e:bO .sub Za a (p*16)=a-p*16:=di (by omega);rw[y.1,y.2,e,CO (by omega) (by omega) (by omega),FY (by omega)];exact⟨rfl,rfl⟩
theorem RH {p k b a:Int}(h:spOk p k b=false):GJ p k b a=false:=by unfold GJ;rw[h];rfl
theorem aez {p k b a:Int}(h:inR a (p*16) (p*16+15)=false):GJ p k b a=false:=by unfold GJ;rw[h,Z8]
theorem PF {p k b a:Int}(h:spOk p k b=true)(h0:¬ a<0)(h1:bO .quo Za a 16=p)(ha:a<=9223372036854775807):saS p k b a=bO .quo Za (bO .rem Za a 16) (clsSz k)/\saO p k b a=bO .rem Za (bO .rem Za a 16) (clsSz k):=by
 have t:=oz h;have c:=j8 t.2.2.1;rw[CO (by omega) ha (by omega)]at h1;have e:bO .rem Za a 16=a%16:=FY (by omega);have y:=AY (F7.2 ⟨h,show p*16<=a/\a<=p*16+15 by omega⟩);rw[y.1,y.2,e,CO (by omega) (by omega) (by omega),FY (by omega),show a-p*16=a%16 by omega];exact⟨rfl,rfl⟩
theorem RI {p k b a:Int}(h0:a<0\/bO .quo Za a 16≠p)(ha:a<=9223372036854775807):GJ p k b a=false:=by
 cases q:GJ p k b a
 ·rfl
 ·obtain⟨h,h1⟩:=F7.1 q;have t:=oz h;rcases h0 with h0|h0;omega
  ·rw[CO (by omega) ha (by omega)]at h0;omega
theorem KH {p k b s:Int}(h:spOk p k b=true)(h1:inR s 0 (slN k-1)=true):bO .add Za (bO .mul Za p 16) (bO .mul Za s (clsSz k))=aaI p k b s:=by
 have t:=oz h;have c:=j8 t.2.2.1;have q:=bA.1 h1;have m1:0<=s*clsSz k:=Int.mul_nonneg q.1 (by omega);have m2:s*clsSz k<=(slN k-1)*clsSz k:=Int.mul_le_mul_of_nonneg_right q.2 (by omega);have m3:(slN k-1)*clsSz k=16-clsSz k:=by rw[Int.sub_mul,c.2.2.2.2,Int.one_mul]
 have e:bO .mul Za s (clsSz k)=s*clsSz k:=HE (by omega);rw[(adU ⟨t.1,t.2.1⟩).1,e];unfold aaI Of;rw[h,h1];exact bF (by omega)
theorem Il {p k b s:Int}(h:spOk p k b=false\/inR s 0 (slN k-1)=false):aaI p k b s= -1:=by
 unfold aaI Of;rcases h with h|h
 ·rw[h];rfl
 ·rw[h,Z8];rfl
theorem Mc {p n s:Int}(h:lgOk p n s=true):bO .mul Za p 16=p*16/\bO .add Za (bO .mul Za p 16) s=p*16+s/\bO .sub Za (bO .add Za (bO .mul Za p 16) s) 1=p*16+s-1:=by
 have t:=oj h;have b:=mX t.1;have q:=bA.1 t.1;have e1:bO .mul Za p 16=p*16:=HE (by omega);have e2:bO .add Za (p*16) s=p*16+s:=bF (by omega);have e3:bO .sub Za (p*16+s) 1=p*16+s-1:=di (by omega);rw[e1,e2,e3];exact⟨rfl,rfl,rfl⟩
theorem aab {p n s a:Int}:lhB p n s a=true↔lgOk p n s=true/\p*16<=a/\a<=p*16+s-1:=by unfold lhB;rw[Zc,bA]
theorem ade {p n s a:Int}(h:lhB p n s a=true):bO .sub Za a (bO .mul Za p 16)=loI p n s a:=by
 obtain⟨h1,h2,h3⟩:=aab.1 h;have t:=oj h1;have b:=mX t.1;have q:=bA.1 t.1;rw[(Mc h1).1,aaf h];exact di (by omega)
end Go.V
namespace Go.V
def jp (l:List Int):af:=l.map fun x=>[.i x]
theorem cn {l:List Int}:(jp l).length=l.length:=by unfold jp;rw[List.length_map]
theorem iu {a b:List Int}:jp (a++b)=jp a++jp b:=by unfold jp;rw[List.map_append]
theorem vT {l:List Int}{k:Nat}(h:k<l.length):ah (jp l) k 0=l[k]:=by
 have e:(jp l).getD k []=[.i l[k]]:=by
  unfold jp;rw[Zr,List.getElem?_map,Zu h];rfl
 unfold ah;rw[Zx,e];rfl
theorem rL {l:List Int}{x:Int}:hasB (jp l) x=true↔x∈l:=by
 rw[CB]
 constructor
 ·rintro⟨k,hk,e⟩;rw[cn]at hk;rw[vT hk]at e;rw[<-e];exact List.getElem_mem hk
 ·intro h;obtain⟨k,hk,e⟩:=List.getElem_of_mem h;exact⟨k,by rw[cn];exact hk,by rw[vT hk];exact e⟩
theorem yv {l:List Int}{x:Int}(h:hasB (jp l) x=false):x∉l:=fun m=>by rw[rL.2 m]at h;cases h
theorem vU {l:List Int}(h:∀ x∈l,-9223372036854775808<=x/\x<=9223372036854775807)(hl:l.length<=70368744177664):Rw [tI] (jp l):=by
 refine⟨by rw[cn];unfold maxLen;omega,fun e he=>?_⟩;obtain⟨x,hx,rfl⟩:=List.mem_map.1 he;have q:=h x hx;exact⟨⟨rfl,by show-9223372036854775808<=x/\x<=(9223372036854775807:Int);exact q⟩,trivial⟩
theorem Tp {l:af}{x i:Int}(h:upto (bT (Kn l x)) i)(hi:(l.length:Int)<=i):hasB l x=false:=by
 unfold hasB idxI;rw[eE h hi];rfl
def RJ (sp:af)(i:Int):Bool:=spOk (ah sp i 0) (ah sp i 1) (ah sp i 2)
def lgA (lg:af)(i:Int):Bool:=lgOk (ah lg i 0) (ah lg i 1) (ah lg i 2)
def oB (sp:af):Nat->List Int
 |0=>[]
 |n+1=>oB sp n++[ah sp n 0]
def rT (p:Int):Nat->List Int
 |0=>[]
 |n+1=>rT p n++[p+n]
def oA (lg:af):Nat->List Int
 |0=>[]
 |n+1=>oA lg n++rT (ah lg n 0) (ah lg n 1).toNat
def AO (sp lg:af):List Int:=oB sp sp.length++oA lg lg.length
def layOk (sp lg:af):Bool:=(cI (RJ sp) sp.length&&cI (lgA lg) lg.length)&&decide (AO sp lg).Nodup
theorem rA {sp:af}{i:Int}(h:0<=i):oB sp (i+1).toNat=oB sp i.toNat++[ah sp i 0]:=by
 rw[show(i+1).toNat=i.toNat+1 from by omega,oB,Zq h]
theorem sV {lg:af}{i:Int}(h:0<=i):oA lg (i+1).toNat=oA lg i.toNat++rT (ah lg i 0) (ah lg i 1).toNat:=by
 rw[show(i+1).toNat=i.toNat+1 from by omega,oA,Zq h]
theorem AP {p i:Int}(h:0<=i):rT p (i+1).toNat=rT p i.toNat++[p+i]:=by
 rw[show(i+1).toNat=i.toNat+1 from by omega,rT,Zq h]
theorem rX {sp:af}:∀ {n:Nat},(oB sp n).length=n
 |0=>rfl
 |n+1=>by rw[oB,Zd,rX];rfl
theorem uw {p:Int}:∀ {n:Nat},(rT p n).length=n
 |0=>rfl
 |n+1=>by rw[rT,Zd,uw];rfl
theorem Jy {sp:af}:∀ (m n:Nat),n<=m->∃ r,oB sp m=oB sp n++r
 |0,n,h=>⟨[],by rw[show n=0 by omega];rfl⟩
 | m+1,n,h=>by
   by_cases c:n=m+1
   ·subst c;exact⟨[],by simp⟩
   ·obtain⟨r,e⟩:=Jy (sp:=sp) m n (by omega);exact⟨r++[ah sp m 0],by rw[oB,e,Zj]⟩
theorem Jl {p:Int}:∀ (m n:Nat),n<=m->∃ r,rT p m=rT p n++r
 |0,n,h=>⟨[],by rw[show n=0 by omega];rfl⟩
 | m+1,n,h=>by
   by_cases c:n=m+1
   ·subst c;exact⟨[],by simp⟩
   ·obtain⟨r,e⟩:=Jl (p:=p) m n (by omega);exact⟨r++[p+m],by rw[rT,e,Zj]⟩
theorem IZ {lg:af}:∀ (m n:Nat),n<=m->∃ r,oA lg m=oA lg n++r
 |0,n,h=>⟨[],by rw[show n=0 by omega];rfl⟩
 | m+1,n,h=>by
   by_cases c:n=m+1
   ·subst c;exact⟨[],by simp⟩
   ·obtain⟨r,e⟩:=IZ (lg:=lg) m n (by omega);exact⟨r++rT (ah lg m 0) (ah lg m 1).toNat,by rw[oA,e,Zj]⟩
theorem dup {a b l:List Int}{x:Int}(h:l=a++x::b)(hm:x∈a):¬ l.Nodup:=by
 rw[h,Zw];rintro⟨_,_,q⟩;exact q x hm x (by simp) rfl
theorem np {a:List Int}{x:Int}(h:a.Nodup)(hx:x∉a):(a++[x]).Nodup:=by
 rw[Zw];exact⟨h,by simp,fun y hy z hz e=>by simp at hz;subst hz;subst e;exact hx hy⟩
theorem IS {sp lg:af}{i:Int}(h0:0<=i)(h1:i<sp.length)(h:spOk (ah sp i 0) (ah sp i 1) (ah sp i 2)=false):layOk sp lg=false:=by
 unfold layOk;rw[bW h0 h1 h];rfl
theorem IT {sp lg:af}{i:Int}(h0:0<=i)(h1:i<lg.length)(h:lgOk (ah lg i 0) (ah lg i 1) (ah lg i 2)=false):layOk sp lg=false:=by
 unfold layOk;rw[bW (p:=lgA lg) h0 h1 h,Z8];rfl
theorem IU {sp lg:af}{i:Int}(h0:0<=i)(h1:i<sp.length)(h:ah sp i 0∈oB sp i.toNat):layOk sp lg=false:=by
 obtain⟨r,e⟩:=Jy (sp:=sp) sp.length (i+1).toNat (by omega);rw[rA h0,Zj]at e;have:¬ (AO sp lg).Nodup:=dup (a:=oB sp i.toNat) (b:=r++oA lg lg.length) (x:=ah sp i 0) (by unfold AO;rw[e,Zj];rfl) h;unfold layOk;rw[VP this,Z8]
theorem IV {sp lg:af}{i k:Int}(h0:0<=i)(h1:i<lg.length)(k0:0<=k)(k1:k<ah lg i 1)(h:ah lg i 0+k∈oB sp sp.length++oA lg i.toNat++rT (ah lg i 0) k.toNat):layOk sp lg=false:=by
 obtain⟨r,e⟩:=IZ (lg:=lg) lg.length (i+1).toNat (by omega);obtain⟨r2,e2⟩:=Jl (p:=ah lg i 0) (ah lg i 1).toNat (k+1).toNat (by omega);rw[sV h0,e2,AP k0]at e;have:¬ (AO sp lg).Nodup:=dup (a:=oB sp sp.length++oA lg i.toNat++rT (ah lg i 0) k.toNat) (b:=r2++r) (x:=ah lg i 0+k) (by unfold AO;rw[e];simp only[Zj];rfl) h;unfold layOk;rw[VP this,Z8]
theorem IW {sp lg:af}{i j:Int}(h:upto (RJ sp) i)(hi:(sp.length:Int)<=i)(h2:upto (lgA lg) j)(hj:(lg.length:Int)<=j)(hn:(AO sp lg).Nodup):layOk sp lg=true:=by
 unfold layOk;rw[bM h hi,bM h2 hj,VO hn];rfl
theorem L1 {sp lg:af}(h:layOk sp lg=true):(∀ i:Int,0<=i->i<sp.length->spOk (ah sp i 0) (ah sp i 1) (ah sp i 2)=true)/\(∀ i:Int,0<=i->i<lg.length->lgOk (ah lg i 0) (ah lg i 1) (ah lg i 2)=true)/\(AO sp lg).Nodup:=by
 unfold layOk at h;simp only[Zc,VQ]at h;exact⟨dL.1 h.1.1,dL.1 h.1.2,h.2⟩
def WfB (es:af):Prop:=∀ e∈es,∃ (k:Int) (b:Bool),e=[.i k,.v (.bool b)]
theorem AC {k:Int}{b:Bool}{es:af}{n:Int}:fc ([.i k,.v (.bool b)]::es) n=if k=n then some (0,.bool b)else(fc es n).map fun p=>(p.1+1,p.2):=rfl
theorem qY {k:Int}{b:Bool}{es:af}{n:Int}:mgbI ([.i k,.v (.bool b)]::es) n=if k=n then b else mgbI es n:=by
 unfold mgbI;rw[AC];by_cases c:k=n
 ·rw[VR c,VR c]
 ·rw[VT c,VT c];cases fc es n with
  |none=>rfl
  |some p=>obtain⟨j,v⟩:=p;cases v<;>rfl
theorem I6 {k:Int}{b x:Bool}{es:af}{n:Int}:oW ([.i k,.v (.bool b)]::es) n (.v (.bool x))=if k=n then[.i n,.v (.bool x)]::es else[.i k,.v (.bool b)]::oW es n (.v (.bool x)):=by
 unfold oW;rw[AC];by_cases c:k=n
 ·rw[VR c,VR c];rfl
 ·rw[VT c,VT c];cases fc es n with
  |none=>rfl
  |some p=>rfl
theorem mub {x:Bool}{n:Int}:∀ {es:af},WfB es->WfB (oW es n (.v (.bool x)))/\∀ m,mgbI (oW es n (.v (.bool x))) m=if m=n then x else mgbI es m
 | [],_=>by
   refine⟨fun e he=>?_,fun m=>?_⟩
   ·have:e=[.i n,.v (.bool x)]:=by simpa[oW,fc]using he
    exact⟨n,x,this⟩
   ·show mgbI [[.i n,.v (.bool x)]] m=_;rw[qY];by_cases c:m=n
    ·rw[VR c.symm,VR c]
    ·rw[VT (fun e=>c e.symm),VT c]
 | e::es,h=>by
   obtain⟨k,b,rfl⟩:=h e (by simp);have h':WfB es:=fun e he=>h e (by simp[he])
   obtain⟨a1,a2⟩:=mub (x:=x) (n:=n) h';rw[I6];by_cases c:k=n
   ·rw[VR c];refine⟨fun e he=>?_,fun m=>?_⟩
    ·rcases Zn.1 he with rfl|he;exact⟨n,x,rfl⟩;exact h' e he
    ·rw[qY,qY];by_cases d:m=n
     ·rw[VR d.symm,VR d]
     ·rw[VT (fun e=>d e.symm),VT d,VT (fun e=>d (by rw[<-e,c]))]
   ·rw[VT c];refine⟨fun e he=>?_,fun m=>?_⟩
    ·rcases Zn.1 he with rfl|he;exact⟨k,b,rfl⟩;exact a1 e he
    ·rw[qY,qY,a2 m];by_cases d:k=m
     ·rw[VR d,VR d,VT (fun e=>c (d.trans e))]
     ·rw[VT d,VT d]
def muT (es:af)(n:Int):af:=oW es n (.v (.bool true))
structure sq (es:af)(l:List Int):Prop where
 wf:WfB es
 at_:∀ m,mgbI es m=true↔m∈l
theorem HV:sq [] []:=⟨(fun e he=>by cases he),fun m=>by simp[mgbI,fc]⟩
theorem yE {es:af}{l:List Int}{n:Int}(h:sq es l):sq (oW es n (.v (.bool true))) (l++[n]):=by
 have q:=mub (x:=true) (n:=n) h.wf;refine⟨q.1,fun m=>?_⟩;rw[q.2 m];by_cases c:m=n
 ·rw[VR c];simp[c]
 ·rw[VT c,h.at_ m];simp[c]
def one (x:Int):af:=[[.i x]]
structure N9 (sp:af)(i:Int)(o:af):Prop where
 e:o=jp (oB sp i.toNat)
 nd:(oB sp i.toNat).Nodup
 ok:upto (RJ sp) i
 b:∀ x∈oB sp i.toNat,0<=x/\x<=64
structure LlP (sp lg:af)(j:Int)(o:af):Prop where
 e:o=jp (oB sp sp.length++oA lg j.toNat)
 nd:(oB sp sp.length++oA lg j.toNat).Nodup
 oks:upto (RJ sp) sp.length
 ok:upto (lgA lg) j
 b:∀ x∈oB sp sp.length++oA lg j.toNat,0<=x/\x<=64
 l:(oA lg j.toNat).length<=64*j.toNat
structure N8 (sp lg:af)(j k:Int)(o:af):Prop where
 e:o=jp (oB sp sp.length++oA lg j.toNat++rT (ah lg j 0) k.toNat)
 nd:(oB sp sp.length++oA lg j.toNat++rT (ah lg j 0) k.toNat).Nodup
 oks:upto (RJ sp) sp.length
 ok:upto (lgA lg) j
 b:∀ x∈oB sp sp.length++oA lg j.toNat++rT (ah lg j 0) k.toNat,0<=x/\x<=64
 l:(oA lg j.toNat).length<=64*j.toNat
theorem KU {l:List Int}(h:∀ x∈l,0<=x/\x<=64)(hl:l.length<=70368744177664):Rw [tI] (jp l):=vU (fun x hx=>by have:=h x hx;omega) hl
theorem Fb {l:List Int}{x:Int}(h:∀ x∈l,0<=x/\x<=64)(hx:0<=x/\x<=64):∀ y∈l++[x],0<=y/\y<=64:=by
 intro y hy;rcases Zg.1 hy with q|q;exact h y q
 ·simp at q;rw[q];exact hx
theorem agC {sp:af}:N9 sp 0 []:=⟨rfl,ZR,bB,fun x hx=>by cases hx⟩
theorem Mf {sp o:af}{i:Int}(h:N9 sp i o):o.length=i.toNat:=by rw[h.e,cn,rX]
theorem adg {sp o:af}{i:Int}(h:N9 sp i o)(hi:i<=1073741824):Rw [tI] o:=by
 have l:=Mf h;have e:=h.e;rw[e,cn]at l;rw[e];exact KU h.b (by omega)
theorem aag {sp lg o:af}{i:Int}(h:N9 sp i o)(h0:0<=i)(h1:i<sp.length)(hh:hasB o (ah sp i 0)=true):layOk sp lg=false:=by
 rw[h.e,rL]at hh;exact IU h0 h1 hh
theorem adh {sp o:af}{i:Int}(h:N9 sp i o)(h0:0<=i)(hs:spOk (ah sp i 0) (ah sp i 1) (ah sp i 2)=true)(hh:hasB o (ah sp i 0)=false):N9 sp (i+1) (o++[[.i (ah sp i 0)]]):=by
 have t:=oz hs;have e:=h.e;rw[e]at hh;have hm:=yv hh;exact⟨by rw[rA h0,iu,e];rfl,by rw[rA h0];exact np h.nd hm,aV h.ok hs,by rw[rA h0];exact Fb h.b (by omega)⟩
theorem aah {sp lg o:af}{i:Int}(h:N9 sp i o)(h1:i<=sp.length)(h2:(sp.length:Int)<=i):LlP sp lg 0 o:=by
 have e:i.toNat=sp.length:=by omega
 have ei:i=sp.length:=by omega
 have q1:=h.e;have q2:=h.nd;have q3:=h.ok;have q4:=h.b;rw[e]at q1 q2 q4;rw[ei]at q3;exact⟨by rw[q1];simp[oA],by simpa[oA]using q2,q3,bB,by simpa[oA]using q4,by simp[oA]⟩
theorem agB {sp lg o:af}{j:Int}(h:LlP sp lg j o):N8 sp lg j 0 o:=by
 refine⟨by rw[h.e];simp[rT],by simpa[rT]using h.nd,h.oks,h.ok,by simpa[rT]using h.b,h.l⟩
theorem Me {sp lg o:af}{j k:Int}(h:N8 sp lg j k o):o.length<=sp.length+64*j.toNat+k.toNat:=by
 have l:=h.l;rw[h.e,cn,Zd,Zd,rX,uw];omega
theorem adb {sp lg o:af}{j k:Int}(h:N8 sp lg j k o)(h1:sp.length<=1073741824)(h2:j<=1073741824)(h3:k<=64):Rw [tI] o:=by
 have l:=Me h;have e:=h.e;rw[e,cn]at l;rw[e];exact KU h.b (by omega)
theorem aac {sp lg o:af}{j k:Int}(h:N8 sp lg j k o)(h0:0<=j)(h1:j<lg.length)(k0:0<=k)(k1:k<ah lg j 1)(hh:hasB o (ah lg j 0+k)=true):layOk sp lg=false:=by
 rw[h.e,rL]at hh;exact IV h0 h1 k0 k1 hh
theorem ada {p n s k:Int}(h:lgOk p n s=true)(k0:0<=k)(k1:k<n):0<=p/\p+k<=32/\bO .add Za p k=p+k/\1<=n/\n<=32:=by
 have t:=oj h;have b:=mX t.1;have e:bO .add Za p k=p+k:=bF (by omega);exact⟨by omega,by omega,e,by omega,by omega⟩
theorem adc {sp lg o:af}{j k:Int}(h:N8 sp lg j k o)(k0:0<=k)(hx:0<=ah lg j 0+k/\ah lg j 0+k<=64)(hh:hasB o (ah lg j 0+k)=false):N8 sp lg j (k+1) (o++[[.i (ah lg j 0+k)]]):=by
 have e:=h.e;rw[e]at hh;have hm:=yv hh;have q:∀ A:List Int,A++rT (ah lg j 0) (k+1).toNat=A++rT (ah lg j 0) k.toNat++[ah lg j 0+k]:=fun A=>by rw[AP k0,Zj]
 exact⟨by rw[q,iu,e];rfl,by rw[q];exact np h.nd hm,h.oks,h.ok,by rw[q];exact Fb h.b hx,h.l⟩
theorem aad {sp lg o:af}{j k:Int}(h:N8 sp lg j k o)(j0:0<=j)(hl:lgOk (ah lg j 0) (ah lg j 1) (ah lg j 2)=true)(k0:0<=k)(k1:k<=ah lg j 1)(k2:ah lg j 1<=k):LlP sp lg (j+1) o:=by
 have t:=oj hl;have b:=mX t.1;have ek:k.toNat=(ah lg j 1).toNat:=by omega
 have q1:=h.e;have q2:=h.nd;have q4:=h.b;have q5:=h.l;rw[ek,Zj, <-sV j0]at q1 q2 q4;refine⟨q1,q2,h.oks,aV h.ok hl,q4,?_⟩;rw[sV j0,Zd,uw];omega
theorem aae {sp lg o:af}{j:Int}(h:LlP sp lg j o)(j1:j<=lg.length)(j2:(lg.length:Int)<=j):layOk sp lg=true:=by
 have e:j.toNat=lg.length:=by omega
 have q:=h.nd;rw[e]at q;exact IW h.oks (Ye _) h.ok j2 q
end Go.V
namespace Go.V
structure Sn (sp:af)(i:Int)(es:af):Prop where
 s:sq es (oB sp i.toNat)
 nd:(oB sp i.toNat).Nodup
 ok:upto (RJ sp) i
structure IlP (sp lg:af)(j:Int)(es:af):Prop where
 s:sq es (oB sp sp.length++oA lg j.toNat)
 nd:(oB sp sp.length++oA lg j.toNat).Nodup
 oks:upto (RJ sp) sp.length
 ok:upto (lgA lg) j
structure Sk (sp lg:af)(j k:Int)(es:af):Prop where
 s:sq es (oB sp sp.length++oA lg j.toNat++rT (ah lg j 0) k.toNat)
 nd:(oB sp sp.length++oA lg j.toNat++rT (ah lg j 0) k.toNat).Nodup
 oks:upto (RJ sp) sp.length
 ok:upto (lgA lg) j
theorem Nc {es:af}{l:List Int}{n:Int}(h:sq es l)(e:mgbI es n=false):n∉l:=fun m=>by rw[(h.at_ n).2 m]at e;cases e
theorem agv {sp:af}:Sn sp 0 []:=⟨HV,ZR,bB⟩
theorem TV {sp lg es:af}{i:Int}(h:Sn sp i es)(h0:0<=i)(h1:i<sp.length)(hh:mgbI es (ah sp i 0)=true):layOk sp lg=false:=
 IU h0 h1 ((h.s.at_ _).1 hh)
theorem acW {sp es:af}{i:Int}(h:Sn sp i es)(h0:0<=i)(hs:spOk (ah sp i 0) (ah sp i 1) (ah sp i 2)=true)(hh:mgbI es (ah sp i 0)=false):Sn sp (i+1) (muT es (ah sp i 0)):=
 ⟨by rw[rA h0];exact yE h.s,by rw[rA h0];exact np h.nd (Nc h.s hh),aV h.ok hs⟩
theorem TW {sp lg es:af}{i:Int}(h:Sn sp i es)(h1:i<=sp.length)(h2:(sp.length:Int)<=i):IlP sp lg 0 es:=by
 have e:i.toNat=sp.length:=by omega
 have ei:i=sp.length:=by omega
 have q1:=h.s;have q2:=h.nd;have q3:=h.ok;rw[e]at q1 q2;rw[ei]at q3;exact⟨by simpa[oA]using q1,by simpa[oA]using q2,q3,bB⟩
theorem agt {sp lg es:af}{j:Int}(h:IlP sp lg j es):Sk sp lg j 0 es:=
 ⟨by simpa[rT]using h.s,by simpa[rT]using h.nd,h.oks,h.ok⟩
theorem TO {sp lg es:af}{j k:Int}(h:Sk sp lg j k es)(h0:0<=j)(h1:j<lg.length)(k0:0<=k)(k1:k<ah lg j 1)(hh:mgbI es (ah lg j 0+k)=true):layOk sp lg=false:=
 IV h0 h1 k0 k1 ((h.s.at_ _).1 hh)
theorem acT {sp lg es:af}{j k:Int}(h:Sk sp lg j k es)(k0:0<=k)(hh:mgbI es (ah lg j 0+k)=false):Sk sp lg j (k+1) (muT es (ah lg j 0+k)):=by
 have q:∀ A:List Int,A++rT (ah lg j 0) (k+1).toNat=A++rT (ah lg j 0) k.toNat++[ah lg j 0+k]:=fun A=>by rw[AP k0,Zj]
 exact⟨by rw[q];exact yE h.s,by rw[q];exact np h.nd (Nc h.s hh),h.oks,h.ok⟩
theorem TP {sp lg es:af}{j k:Int}(h:Sk sp lg j k es)(j0:0<=j)(hl:lgOk (ah lg j 0) (ah lg j 1) (ah lg j 2)=true)(k1:k<=ah lg j 1)(k2:ah lg j 1<=k):IlP sp lg (j+1) es:=by
 have ek:k.toNat=(ah lg j 1).toNat:=by omega
 have q1:=h.s;have q2:=h.nd;rw[ek,Zj, <-sV j0]at q1 q2;exact⟨q1,q2,h.oks,aV h.ok hl⟩
theorem TQ {sp lg es:af}{j:Int}(h:IlP sp lg j es)(j1:j<=lg.length)(j2:(lg.length:Int)<=j):layOk sp lg=true:=by
 have e:j.toNat=lg.length:=by omega
 have q:=h.nd;rw[e]at q;exact IW h.oks (Ye _) h.ok j2 q
theorem adB {b:Bool}(h:(!b)=false):b=true:=by cases b<;>simp_all
theorem adC {b:Bool}(h:(!b)=true):b=false:=by cases b<;>simp_all
end Go.V
namespace Go.V
def Ej (sp:af)(a i:Int):Bool:=decide (0<=saS (ah sp i 0) (ah sp i 1) (ah sp i 2) a)
def FJ (lg:af)(a i:Int):Bool:=lhB (ah lg i 0) (ah lg i 1) (ah lg i 2) a
def oV (sp:af)(a:Int):Int:=cP (Ej sp a) sp.length
def B0 (lg:af)(a:Int):Int:=cP (FJ lg a) lg.length
def N1 (sp:af)(a i:Int):Int:=saS (ah sp i 0) (ah sp i 1) (ah sp i 2) a
def soA (sp:af)(a i:Int):Int:=saO (ah sp i 0) (ah sp i 1) (ah sp i 2) a
def loA (lg:af)(a i:Int):Int:=loI (ah lg i 0) (ah lg i 1) (ah lg i 2) a
def dnK (sp lg:af)(a:Int):Int:=if 0<=oV sp a then(if hsB (ah sp (oV sp a) 2) (N1 sp a (oV sp a))then 1 else 2)else if 0<=B0 lg a then 3 else 0
def dnI (sp lg:af)(a:Int):Int:=if 0<=oV sp a then oV sp a else if 0<=B0 lg a then B0 lg a else 0
def dnS (sp:af)(a:Int):Int:=if 0<=oV sp a then N1 sp a (oV sp a)else 0
def dnO (sp lg:af)(a:Int):Int:=if 0<=oV sp a then soA sp a (oV sp a)else if 0<=B0 lg a then loA lg a (B0 lg a)else 0
def dzK (sp lg:af)(a:Int):Int:=if layOk sp lg then dnK sp lg a else 0
def dzI (sp lg:af)(a:Int):Int:=if layOk sp lg then dnI sp lg a else 0
def dzS (sp lg:af)(a:Int):Int:=if layOk sp lg then dnS sp a else 0
def dzO (sp lg:af)(a:Int):Int:=if layOk sp lg then dnO sp lg a else 0
theorem aey {sp:af}{a i:Int}(h:upto (bT (Ej sp a)) i)(hs:saS (ah sp i 0) (ah sp i 1) (ah sp i 2) a<0):upto (bT (Ej sp a)) (i+1):=
 aV h (by unfold bT Ej;rw[VP (by omega)];rfl)
theorem ac4 {lg:af}{a i:Int}(h:upto (bT (FJ lg a)) i)(hs:lhB (ah lg i 0) (ah lg i 1) (ah lg i 2) a=false):upto (bT (FJ lg a)) (i+1):=
 aV h (by unfold bT FJ;rw[hs];rfl)
theorem QW {sp:af}{a i:Int}(h:upto (bT (Ej sp a)) i)(h0:0<=i)(h1:i<sp.length)(hs:0<=saS (ah sp i 0) (ah sp i 1) (ah sp i 2) a):oV sp a=i:=
 eD h h0 h1 (VO hs)
theorem QX {sp:af}{a i:Int}(h:upto (bT (Ej sp a)) i)(h1:(sp.length:Int)<=i):oV sp a= -1:=eE h h1
theorem ace {lg:af}{a i:Int}(h:upto (bT (FJ lg a)) i)(h0:0<=i)(h1:i<lg.length)(hs:lhB (ah lg i 0) (ah lg i 1) (ah lg i 2) a=true):B0 lg a=i:=
 eD h h0 h1 hs
theorem acf {lg:af}{a i:Int}(h:upto (bT (FJ lg a)) i)(h1:(lg.length:Int)<=i):B0 lg a= -1:=eE h h1
def owL (k i s o:Int):List DV:=[DV.agg [.i k,.i i,.i s,.i o]]
def NW (sp lg:af)(a:Int):List DV:=owL (dnK sp lg a) (dnI sp lg a) (dnS sp a) (dnO sp lg a)
def dzL (sp lg:af)(a:Int):List DV:=owL (dzK sp lg a) (dzI sp lg a) (dzS sp lg a) (dzO sp lg a)
theorem ow1 {sp lg:af}{a i:Int}(h:upto (bT (Ej sp a)) i)(h0:0<=i)(h1:i<sp.length)(hs:0<=saS (ah sp i 0) (ah sp i 1) (ah sp i 2) a)(hh:hsB (ah sp i 2) (saS (ah sp i 0) (ah sp i 1) (ah sp i 2) a)=true):
 owL 1 i (saS (ah sp i 0) (ah sp i 1) (ah sp i 2) a) (saO (ah sp i 0) (ah sp i 1) (ah sp i 2) a)=NW sp lg a:=by
 have e:=QW h h0 h1 hs;unfold NW dnK dnI dnS dnO N1 soA;rw[e,VR h0,VR h0,VR h0,VR h0,hh];rfl
theorem ow2 {sp lg:af}{a i:Int}(h:upto (bT (Ej sp a)) i)(h0:0<=i)(h1:i<sp.length)(hs:0<=saS (ah sp i 0) (ah sp i 1) (ah sp i 2) a)(hh:hsB (ah sp i 2) (saS (ah sp i 0) (ah sp i 1) (ah sp i 2) a)=false):
 owL 2 i (saS (ah sp i 0) (ah sp i 1) (ah sp i 2) a) (saO (ah sp i 0) (ah sp i 1) (ah sp i 2) a)=NW sp lg a:=by
 have e:=QW h h0 h1 hs;unfold NW dnK dnI dnS dnO N1 soA;rw[e,VR h0,VR h0,VR h0,VR h0,hh];rfl
theorem ow3 {sp lg:af}{a i j:Int}(h:upto (bT (Ej sp a)) i)(h1:(sp.length:Int)<=i)(g:upto (bT (FJ lg a)) j)(j0:0<=j)(j1:j<lg.length)(hh:lhB (ah lg j 0) (ah lg j 1) (ah lg j 2) a=true):
 owL 3 j 0 (loI (ah lg j 0) (ah lg j 1) (ah lg j 2) a)=NW sp lg a:=by
 have e:=QX h h1;have f:=ace g j0 j1 hh;have n:¬ (0:Int)<= -1:=by omega
 unfold NW dnK dnI dnS dnO loA;rw[e,f,VT n,VT n,VT n,VT n,VR j0,VR j0,VR j0]
theorem ow4 {sp lg:af}{a i j:Int}(h:upto (bT (Ej sp a)) i)(h1:(sp.length:Int)<=i)(g:upto (bT (FJ lg a)) j)(j1:(lg.length:Int)<=j):
 owL 0 0 0 0=NW sp lg a:=by
 have e:=QX h h1;have f:=acf g j1;have n:¬ (0:Int)<= -1:=by omega
 unfold NW dnK dnI dnS dnO;rw[e,f,VT n,VT n,VT n,VT n,VT n,VT n,VT n]
theorem OG {sp lg:af}{a:Int}(h:layOk sp lg=true):NW sp lg a=dzL sp lg a:=by
 unfold dzL NW dzK dzI dzS dzO;rw[VR h,VR h,VR h,VR h]
theorem af7 {sp lg:af}{a:Int}(h:layOk sp lg=false):owL 0 0 0 0=dzL sp lg a:=by
 have n:¬ layOk sp lg=true:=by rw[h];decide
 unfold dzL dzK dzI dzS dzO;rw[VT n,VT n,VT n,VT n]
end Go.V
namespace Go.V
def yd (sp lg:af)(a:Int):Bool:=decide (dzO sp lg a=0)&&(decide (dzK sp lg a=1)||decide (dzK sp lg a=3))
def NZ (sp lg:af):Nat->af
 |0=>[]
 |n+1=>NZ sp lg n++(if yd sp lg n then[[.i n]]else[])
def laL (sp lg:af):af:=if layOk sp lg then NZ sp lg 512 else[]
structure N7 (sp lg:af)(i:Int)(o:af):Prop where
 e:o=NZ sp lg i.toNat
 l:o.length<=i.toNat
 y:0<i->layOk sp lg=true
theorem agz {sp lg:af}:N7 sp lg 0 []:=⟨rfl,Ze _,fun h=>absurd h (by omega)⟩
theorem LY {sp lg:af}{i:Int}(h:0<=i):NZ sp lg (i+1).toNat=NZ sp lg i.toNat++(if yd sp lg i then[[.i i]]else[]):=by
 rw[show(i+1).toNat=i.toNat+1 from by omega,NZ,Zq h]
theorem L0 {sp lg o:af}{i:Int}(h:N7 sp lg i o)(h0:0<=i)(hl:layOk sp lg=true)(hv:yd sp lg i=true):N7 sp lg (i+1) (o++[[.i i]]):=by
 have e:=h.e;have l:=h.l;refine⟨by rw[LY h0,VR hv, <-e],?_,fun _=>hl⟩;rw[Zd,Zp,List.length_nil];omega
theorem Ra {sp lg o:af}{i:Int}(h:N7 sp lg i o)(h0:0<=i)(hl:layOk sp lg=true)(hv:yd sp lg i=false):N7 sp lg (i+1) o:=by
 have e:=h.e;have l:=h.l;refine⟨by rw[LY h0,hv, <-e];simp,?_,fun _=>hl⟩;omega
theorem aaa {sp lg o:af}{i:Int}(h:N7 sp lg i o)(h1:i<=512)(h2:512<=i):o=laL sp lg:=by
 have e:i=512:=by omega
 subst e;unfold laL;rw[VR (h.y (by omega))];exact h.e
theorem T9 {sp lg o:af}{i:Int}(h:N7 sp lg i o)(h0:0<=i)(hl:layOk sp lg=false):o=laL sp lg:=by
 have z:i=0:=by
  by_cases c:0<i
  ·have:=h.y c;rw[hl]at this;cases this
  ·omega
 subst z;unfold laL;rw[hl];exact h.e
theorem adl {sp lg:af}{a:Int}(h:dzO sp lg a=0)(k:dzK sp lg a=1):yd sp lg a=true:=by unfold yd;rw[h,k];rfl
theorem adm {sp lg:af}{a:Int}(h:dzO sp lg a=0)(k:dzK sp lg a=3):yd sp lg a=true:=by unfold yd;rw[h,k];rfl
theorem adi {sp lg:af}{a:Int}(h:dzO sp lg a≠0):yd sp lg a=false:=by unfold yd;rw[VP h];rfl
theorem adj {sp lg:af}{a:Int}(h:dzK sp lg a≠1)(k:dzK sp lg a≠3):yd sp lg a=false:=by unfold yd;rw[VP h,VP k,Bool.or_false,Z8]
theorem vS {a b:af}(h:a=b):[DV.one (.s 1 a)]=[DV.one (.s 1 b)]:=by rw[h]
end Go.V