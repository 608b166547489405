/- Plain facts. -/
import Derived.Test.YtpldpilhgjpkjaaGreatXVE
set_option linter.all false
open Go
open BitVec renaming ofInt->ZV
open Bool renaming and_eq_true->Zc,and_false->Yh
open Int renaming toNat_of_nonneg->Zr,tmod_eq_emod_of_nonneg->WN,toNat_natCast->ZG,le_trans->Wb,le_refl->Yg
open IntKind renaming has->XJ,wrap->YY,bits->WP,signed->WQ,i64->Za
open IntWalk renaming i64_in->YZ
open List renaming range->Zo,mem_range->Yf,length_append->Zf,mem_cons->Zl,getD_eq_getElem?_getD->Zm,getElem?_eq_getElem->Zu,take->Z7,drop->Ym,find?_range_eq_some->XK,find?_range_eq_none->WO,replicate->Zt,length_replicate->Xv,append_assoc->Zp,nodup_append->Zx
open Nat renaming le_refl->Ze,le_trans->ZN
open Value renaming int->Zi
namespace Go.V
theorem ae2 {n:Int}(h:XJ Za n): -9223372036854775808<=n/\n<=9223372036854775807:=h
theorem dx {i:Int}(h0:0<=i)(h1:i<9223372036854775807):bO .add Za i 1=i+1:=cG (by omega)
def inR (x a b:Int):Bool:=decide (a<=x)&&decide (x<=b)
theorem be {x a b:Int}:inR x a b=true↔a<=x/\x<=b:=by simp[inR]
theorem ym {x a b:Int}:inR x a b=false↔x<a\/b<x:=by
 cases h:inR x a b
 ·simp only[true_iff];unfold inR at h;simp only[Bool.and_eq_false_iff,decide_eq_false_iff_not]at h;omega
 ·rw[be]at h;constructor
  ·intro q;cases q
  ·omega
def cT (p:Int->Bool)(n:Nat):Bool:=(Zo n).all fun j=>p (j:Int)
def upto (p:Int->Bool)(i:Int):Prop:=∀ j:Int,0<=j->j<i->p j=true
theorem cg {p:Int->Bool}:upto p 0:=fun j h0 h1=>absurd h1 (by omega)
theorem bN {p:Int->Bool}{i:Int}(h:upto p i)(hp:p i=true):upto p (i+1):=fun j h0 h1=>by
 by_cases q:j=i
 ·subst q;exact hp
 ·exact h j h0 (by omega)
theorem dh {p:Int->Bool}{n:Nat}:cT p n=true↔upto p n:=by
 simp only[cT,List.all_eq_true,Yf];exact⟨fun h j h0 h1=>by have:=h j.toNat (by omega);rwa [Zr h0]at this,fun h x hx=>h x (by omega) (by omega)⟩
theorem cu {p:Int->Bool}{n:Nat}{i:Int}(h:upto p i)(hi:(n:Int)<=i):cT p n=true:=dh.2 fun j h0 h1=>h j h0 (by omega)
theorem cN {p:Int->Bool}{n:Nat}{i:Int}(h0:0<=i)(h:i<n)(hp:p i=false):cT p n=false:=by
 cases q:cT p n
 ·rfl
 ·rw[dh.1 q i h0 h]at hp;cases hp
theorem lB {a b:Bool}(h:a=true↔b=true):a=b:=by cases a<;>cases b<;>simp_all
theorem av {a b:Bool}(h:a=b):[DV.k a]=[DV.k b]:=by rw[h]
def oy (cs us:af)(i k:Int):Bool:=inR (ag (aw cs i 0) k 0) 0 999&&(pX us i 0||decide (ag (aw cs i 0) k 0=0))
def jn (cs us:af)(i:Int):Bool:=decide ((aw cs i 0).length=16)&&cT (oy cs us i) 16
def framesOk (cs us:af):Bool:=inR cs.length 1 32&&decide (us.length=cs.length)&&cT (jn cs us) cs.length
def qK (es:af)(fr i:Int):Bool:=inR (ag es i 0) 0 2&&decide (ag es i 0=0->ag es i 1=0)&&decide (0<ag es i 0->0<=ag es i 1/\ag es i 1<fr)
def tableOk (es:af)(fr:Int):Bool:=cT (qK es fr) es.length&&inR es.length 1 32
def wv (es:af)(f:Int):Nat->af
 |0=>[]
 |n+1=>if ag es n 0≠0/\ag es n 1=f then wv es f n++[[.i n]]else wv es f n
def pagesOn (es:af)(f:Int):af:=wv es f es.length
theorem zG {es:af}{f:Int}:∀ {n:Nat},(wv es f n).length<=n
 |0=>Nat.zero_le _
 | n+1=>by
   have:=zG (es:=es) (f:=f) (n:=n);unfold wv;split
   ·rw[Zf];simp;omega
   ·omega
theorem LS {es:af}{f:Int}{n:Nat}(h0:ag es n 0≠0)(h1:ag es n 1=f):wv es f (n+1)=wv es f n++[[.i n]]:=by rw[wv,VT ⟨h0,h1⟩]
theorem Jb {es:af}{f:Int}{n:Nat}(h:ag es n 0=0\/ag es n 1≠f):wv es f (n+1)=wv es f n:=by rw[wv,VU (by rintro⟨a,b⟩;rcases h with q|q;exact a q;exact q b)]
theorem LR {es:af}{f i:Int}(hi:0<=i)(h0:ag es i 0≠0)(h1:ag es i 1=f):wv es f (i+1).toNat=wv es f i.toNat++[[.i i]]:=by
 have e:((i.toNat:Nat):Int)=i:=Zr hi;rw[show(i+1).toNat=i.toNat+1 from by omega,LS (by rw[e];exact h0) (by rw[e];exact h1),e]
theorem Ja {es:af}{f i:Int}(hi:0<=i)(h:ag es i 0=0\/ag es i 1≠f):wv es f (i+1).toNat=wv es f i.toNat:=by
 have e:((i.toNat:Nat):Int)=i:=Zr hi;rw[show(i+1).toNat=i.toNat+1 from by omega,Jb (by rw[e];exact h)]
theorem yA {es:af}{f:Int}:(pagesOn es f).length<=es.length:=zG
def fh (es:af)(f:Int):Bool:=decide (0<(pagesOn es f).length)
theorem zz {es:af}{f:Int}:fh es f=true↔0<(pagesOn es f).length:=by simp[fh]
theorem PU {cs us:af}(h:inR cs.length 1 32=false):framesOk cs us=false:=by unfold framesOk;rw[h];rfl
theorem PV {cs us:af}(h:us.length≠cs.length):framesOk cs us=false:=by unfold framesOk;rw[VQ h];simp
theorem PW {cs us:af}{i:Int}(h0:0<=i)(h1:i<cs.length)(h:(aw cs i 0).length≠16):framesOk cs us=false:=by
 unfold framesOk;rw[cN h0 h1 (by unfold jn;rw[VQ h];rfl)];simp
theorem H0 {cs us:af}{i k:Int}(h0:0<=i)(h1:i<cs.length)(k0:0<=k)(k1:k<16)(h:inR (ag (aw cs i 0) k 0) 0 999=false\/pX us i 0=false/\ag (aw cs i 0) k 0≠0):framesOk cs us=false:=by
 unfold framesOk;rw[cN h0 h1 (by unfold jn;rw[cN k0 (by simpa using k1) (by unfold oy;rcases h with q|⟨q,q'⟩;rw[q];rfl;rw[q,VQ q'];simp)];simp)];simp
theorem C4 {cs us:af}{i:Int}(h1:inR cs.length 1 32=true)(h2:us.length=cs.length)(h:upto (jn cs us) i)(hi:(cs.length:Int)<=i):framesOk cs us=true:=by
 unfold framesOk;rw[h1,VP h2,cu h hi];rfl
theorem HZ {cs us:af}{i k:Int}(hl:(aw cs i 0).length=16)(h:upto (oy cs us i) k)(hk:16<=k):jn cs us i=true:=by
 unfold jn;rw[VP hl,cu h (by simpa using hk)];rfl
theorem Hq {cs us:af}{i k:Int}(h:inR (ag (aw cs i 0) k 0) 0 999=true)(h':pX us i 0=true\/ag (aw cs i 0) k 0=0):oy cs us i k=true:=by
 unfold oy;rw[h];rcases h' with q|q
 ·rw[q];rfl
 ·rw[VP q];simp
theorem D7 {k:Nat}{a b:af}(h:a=b):[DV.one (.s k a)]=[DV.one (.s k b)]:=by rw[h]
theorem acZ {es:af}{n i:Int}(h0:0<=i)(h1:i<es.length)(h:¬ (0<=ag es i 0/\ag es i 0<=2/\(ag es i 0=0->ag es i 1=0)/\(0<ag es i 0->0<=ag es i 1/\ag es i 1<n))):tableOk es n=false:=by
 unfold tableOk;rw[cN h0 h1];rfl;cases q:qK es n i;rfl
 ·refine absurd ?_ h;unfold qK at q;simp only[Zc,VR,be]at q;exact⟨q.1.1.1,q.1.1.2,q.1.2,q.2⟩
theorem JM {es:af}{n i:Int}(h:0<=ag es i 0/\ag es i 0<=2/\(ag es i 0=0->ag es i 1=0)/\(0<ag es i 0->0<=ag es i 1/\ag es i 1<n)):qK es n i=true:=by
 unfold qK;simp only[Zc,VR,be];exact⟨⟨⟨h.1,h.2.1⟩,h.2.2.1⟩,h.2.2.2⟩
theorem Ee {es:af}{n i:Int}(h:upto (qK es n) i)(hi:(es.length:Int)<=i):tableOk es n=inR es.length 1 32:=by unfold tableOk;rw[cu h hi];rfl
theorem Ed {es:af}{n:Int}(h:tableOk es n=true):1<=es.length/\es.length<=32:=by
 unfold tableOk at h;simp only[Zc,be]at h;omega
theorem acY {es:af}{n i:Int}(h:tableOk es n=true)(h0:0<=i)(h1:i<es.length):0<=ag es i 0/\ag es i 0<=2/\(ag es i 0=0->ag es i 1=0)/\(0<ag es i 0->0<=ag es i 1/\ag es i 1<n):=by
 unfold tableOk at h;simp only[Zc]at h;have q:=dh.1 h.1 i h0 h1;unfold qK at q;simp only[Zc,VR,be]at q;exact⟨q.1.1.1,q.1.1.2,q.1.2,q.2⟩
theorem su {cs us:af}(h:framesOk cs us=true):us.length=cs.length/\1<=cs.length/\cs.length<=32:=by
 unfold framesOk at h;simp only[Zc,VR,be]at h;omega
theorem aas {cs us:af}{i:Int}(h:framesOk cs us=true)(h0:0<=i)(h1:i<cs.length):(aw cs i 0).length=16:=by
 unfold framesOk at h;simp only[Zc,VR,be]at h;have q:=dh.1 h.2 i h0 h1;unfold jn at q;simp only[Zc,VR]at q;exact q.1
end Go.V
namespace Go.V
theorem BH {a n:Int}(h0:0<=a)(h1:a<=9223372036854775807)(hn:0<n):bO .quo Za a n=a/n:=by
 show YY Za (a.tdiv n)=_;rw[Int.tdiv_eq_ediv_of_nonneg h0];have h2:0<=a/n:=Int.ediv_nonneg h0 (by omega);have h3:a/n<=a:=Int.ediv_le_self _ h0;exact YZ _ (by omega)
theorem BK {a n:Int}(h0:0<=a):bO .rem Za a n=a%n:=WN h0
theorem Lw {a:af}{f:Int}:cW .gtr (pagesOn a f).length 0=fh a f:=lB (by rw[zz];simp only[SS];omega)
theorem LD {a:af}{f:Int}(h:(pagesOn a f).length=0):fh a f=false:=by unfold fh;rw[h];rfl
theorem MJ {a b a' b':Int}(h:a=a')(h':b=b'):[DV.agg [.i a,.i b]]=[DV.agg [.i a',.i b']]:=by rw[h,h']
theorem x8 {a b a' b':Int}(h:a=a')(h':b=b'):[DV.j a,DV.j b]=[DV.j a',DV.j b']:=by rw[h,h']
theorem cB {a b:Int}(h:a=b):[DV.j a]=[DV.j b]:=by rw[h]
def peM (es:af)(p:Int):Int:=if 0<=p/\p<es.length then ag es p 0 else 0
def peF (es:af)(p:Int):Int:=if 0<=p/\p<es.length then ag es p 1 else 0
theorem I9 {es:af}{p:Int}(h:0<=p/\p<es.length):peM es p=ag es p 0/\peF es p=ag es p 1:=by unfold peM peF;rw[VT h,VT h];exact⟨rfl,rfl⟩
theorem Fw {es:af}{p:Int}(h:¬ (0<=p/\p<es.length)):peM es p=0/\peF es p=0:=by unfold peM peF;rw[VU h,VU h];exact⟨rfl,rfl⟩
def leM (es:af)(a:Int):Int:=if a<0 then 0 else peM es (a/16)
def leF (es:af)(a:Int):Int:=if a<0 then 0 else peF es (a/16)
def leK (a:Int):Int:=if a<0 then 0 else a%16
end Go.V
namespace Go.V
theorem kW {fs:List Ty}{es:af}{i:Int}(h:Rw [.sl fs] es)(h0:0<=i)(h1:i<es.length):es.take (i+1).toNat=es.take i.toNat++[[.s fs.length (aw es i 0)]]:=by
 rw[show(i+1).toNat=i.toNat+1 from by omega,kO (d:=[]) (show i.toNat<es.length by omega)];have e:=h.eta h0 h1;rw[e];rfl
theorem rA {fs:List Ty}{es:af}{i:Int}(h:Rw [.sl fs] es)(h0:0<=i)(h1:i<es.length):ap (aw es i 0)+es.length<=ap es:=by
 have e:=h.eta h0 h1;have h2:=KL (es:=es) (n:=i.toNat) (by omega);have h3:=xG (es:=es) (n:=i.toNat+1);rw[e]at h2;have h4:fj (k8 aj es i 0 (zR [Ty.sl fs]))=ap (aw es i 0):=by
  show fj [.s fs.length (aw es i 0)]=_;simp only[fj,pQ,ap];omega
 rw[h4]at h2;show _<=es.length+cK es;omega
theorem aO {es:af}:es.length<=ap es:=Nat.le_add_right _ _
theorem jy {es:af}{i:Int}(h:(es.length:Int)<=i):es.take i.toNat=es:=List.take_of_length_le (by omega)
def oG (us es:af)(i:Int):Bool:=pX us i 0==fh es i
def machOk (cs us es:af):Bool:=framesOk cs us&&tableOk es cs.length&&cT (oG us es) cs.length
theorem NA {cs us es:af}(h:framesOk cs us=false\/tableOk es cs.length=false):machOk cs us es=false:=by
 unfold machOk;rcases h with h|h<;>rw[h]<;>simp
theorem QI {cs us es:af}(hf:framesOk cs us=true)(h:tableOk es us.length=false):machOk cs us es=false:=by
 rw[(su hf).1]at h;exact NA (.inr h)
theorem QJ {cs us es:af}{i:Int}(h0:0<=i)(h1:i<cs.length)(h:pX us i 0≠fh es i):machOk cs us es=false:=by
 unfold machOk;rw[cN h0 h1 (by unfold oG;simpa using h)];simp
theorem IG {us es:af}{i:Int}(h:pX us i 0=fh es i):oG us es i=true:=by unfold oG;simpa using h
theorem Dy {cs us es:af}{i:Int}(h:framesOk cs us=true)(h2:tableOk es us.length=true)(hu:upto (oG us es) i)(hi:(us.length:Int)<=i):machOk cs us es=true:=by
 rw[(su h).1]at h2 hi;unfold machOk;rw[h,h2,cu hu hi];rfl
theorem NB {cs us es:af}(q:machOk cs us es=true):framesOk cs us=true/\tableOk es cs.length=true/\∀ i:Int,0<=i->i<cs.length->pX us i 0=fh es i:=by
 unfold machOk at q;simp only[Zc]at q;refine⟨q.1.1,q.1.2,fun i h0 h1=>?_⟩;have:=dh.1 q.2 i h0 h1;unfold oG at this;simpa using this
theorem fe:∀ {rs:List af} {r:af} {n:Nat},xW rs<=n->r∈rs->ap r<=n
 | a::rs,r,n,h,hr=>by
   simp only[xW]at h;rcases Zl.1 hr with rfl|q;omega;exact fe (rs:=rs) (by omega) q
end Go.V
namespace Go.V
theorem xY:∀ {fs:List Ty} {e:aT},bR fs e->e.length=fs.length
 |[],[],_=>rfl
 |[],_::_,h=>h.elim
 |_::_,[],h=>h.elim
 |_::fs,_::e,h=>by simp only[List.length_cons];rw[xY h.2]
theorem Rw.wid {fs:List Ty}{es:af}(h:Rw fs es){n:Nat}(hn:n<es.length):(es.getD n []).length=fs.length:=xY (h.at hn)
theorem xV:∀ {es:af} {n:Nat} {e:aT},cK (es.set n e)<=cK es+fj e
 |[],_,_=>by simp[cK]
 |a::es,0,e=>by simp only[List.set_cons_zero,cK];omega
 | a::es,n+1,e=>by
   have:=xV (es:=es) (n:=n) (e:=e);simp only[List.set_cons_succ,cK];omega
theorem mA {es:af}{n:Nat}{e:aT}:ap (es.set n e)<=ap es+fj e:=by
 unfold ap;rw[List.length_set];have:=xV (es:=es) (n:=n) (e:=e);omega
theorem af8 {u:af}{i:Int}{b:Bool}(h:Rw [tB] u)(h0:0<=i)(h1:i<u.length):jq (.s 1 u) [(i.toNat,0)] [.v (.bool b)]=u.set i.toNat [.v (.bool b)]:=eG (by rw[h.wid (by omega)];rfl)
theorem aaD {t:Ty}{u:af}{i:Int}(h:Rw [t] u)(h0:0<=i)(h1:i<u.length):∃ rec o',bQ (.s 1 u) [(i.toNat,0)]=some (rec,o')/\o'+1<=rec.length:=eS (by omega) (by rw[h.wid (by omega)];exact Ze _)
end Go.V
namespace Go.V
def pF (cs:af)(fr k v:Int):af:=cs.set fr.toNat [.s 1 ((aw cs fr 0).set k.toNat [.i v])]
theorem zQ {cs:af}{fr:Int}(h:Rw [.sl [tI]] cs)(h0:0<=fr)(h1:fr<cs.length):cs.getD fr.toNat []=[.s 1 (aw cs fr 0)]:=h.eta h0 h1
theorem af7 {cs:af}{fr k v:Int}(h:Rw [.sl [tI]] cs)(h0:0<=fr)(h1:fr<cs.length)(k0:0<=k)(k1:k<(aw cs fr 0).length):jq (.s 1 cs) [(fr.toNat,0),(k.toNat,0)] [.i v]=pF cs fr k v:=by
 have hr:Rw [tI] (aw cs fr 0):=Rw.sub (fs:=[.sl [tI]]) h (by omega) rfl;have hw:=hr.wid (n:=k.toNat) (by omega);show cs.set fr.toNat ((cs.getD fr.toNat []).set 0 (j3 ((cs.getD fr.toNat []).getD 0 .g) [(k.toNat,0)] [.i v]))=_;rw[zQ h h0 h1];show cs.set fr.toNat [.s 1 ((aw cs fr 0).set k.toNat (((aw cs fr 0).getD k.toNat []).take 0++[.i v]++((aw cs fr 0).getD k.toNat []).drop (0+1)))]=_;have hw':((aw cs fr 0).getD k.toNat []).length=1:=hw;rw[List.take_zero,List.drop_of_length_le (by omega)];rfl
theorem aaE {cs:af}{fr k:Int}(h:Rw [.sl [tI]] cs)(h0:0<=fr)(h1:fr<cs.length)(k0:0<=k)(k1:k<(aw cs fr 0).length):∃ rec o',bQ (.s 1 cs) [(fr.toNat,0),(k.toNat,0)]=some (rec,o')/\o'+1<=rec.length:=by
 have hr:Rw [tI] (aw cs fr 0):=Rw.sub (fs:=[.sl [tI]]) h (by omega) rfl;have hw:=hr.wid (n:=k.toNat) (by omega);refine⟨(aw cs fr 0).getD k.toNat [],0,?_,?_⟩
 ·have e:=zQ h h0 h1;have e1:cs[fr.toNat]?=some [.s 1 (aw cs fr 0)]:=by
   rw[Zm,Zu (by omega)]at e;rw[Zu (by omega)];simpa using e
  show(match cs[fr.toNat]? with
   | some rec=>match rec[0]? with
     |some l=>bQ l [(k.toNat,0)]
     |none=>none
   |none=>none)=_
  rw[e1];show(((aw cs fr 0)[k.toNat]?).map (·,0))=_;rw[Zm,Zu (by omega)];rfl
 ·rw[hw];exact Ze _
theorem eE {cs:af}{fr:Int}:kh (.s 1 cs) [(fr.toNat,0)]=aw cs fr 0:=LW
theorem OU {cs:af}{fr:Int}(h:Rw [.sl [tI]] cs)(h0:0<=fr)(h1:fr<cs.length):cs[fr.toNat]?=some [.s 1 (aw cs fr 0)]:=by
 have e:=zQ h h0 h1;rw[Zm,Zu (by omega)]at e;rw[Zu (by omega)];simpa using e
theorem qT {cs:af}{fr:Int}(h:Rw [.sl [tI]] cs)(h0:0<=fr)(h1:fr<cs.length):∃ rec o,bQ (.s 1 cs) [(fr.toNat,0)]=some (rec,o)/\o+[L.s 1 []].length<=rec.length/\Z7 [L.s 1 []].length (Ym o rec)=js aj (.s 1 cs) [(fr.toNat,0)] 0 [L.s 1 []]:=by
 refine⟨[.s 1 (aw cs fr 0)],0,?_,Ze _,?_⟩
 ·show(cs[fr.toNat]?).map (·,0)=_;rw[OU h h0 h1];rfl
 ·show[L.s 1 (aw cs fr 0)]=[L.s 1 (kh (.s 1 cs) [(fr.toNat,0)])];rw[eE]
theorem vT {cs:af}{fr:Int}(h:Rw [.sl [tI]] cs)(h0:0<=fr)(h1:fr<cs.length):∃ es,fC (.s 1 cs) [(fr.toNat,0)]=some (1,es):=by
 refine⟨aw cs fr 0,?_⟩;rw[K4 (by omega),zQ h h0 h1];rfl
theorem JI {cs:af}{fr k v:Int}(h:Rw [.sl [tI]] cs)(h0:0<=fr)(h1:fr<cs.length)(hv: -9223372036854775808<=v/\v<=9223372036854775807):Rw [.sl [tI]] (pF cs fr k v):=by
 have hr:Rw [tI] (aw cs fr 0):=Rw.sub (fs:=[.sl [tI]]) h (by omega) rfl;exact h.set (show bR [.sl [tI]] [.s 1 _]from⟨⟨rfl,hr.set (show bR [tI] [.i v]from⟨⟨rfl,hv⟩,trivial⟩) _⟩,trivial⟩) _
def smM (cs us es:af)(a:Int):Int:=if machOk cs us es=true then leM es a else 0
def smF (cs us es:af)(a:Int):Int:=if machOk cs us es=true then leF es a else 0
def stK (cs us es:af)(a v:Int):Int:=if smM cs us es a=0 then 1 else if smM cs us es a=1 then 2 else if inR v 0 999=true then 0 else 3
def stC (cs us es:af)(a v:Int):af:=if stK cs us es a v=0 then pF cs (smF cs us es a) (a%16) v else cs
def clsSz (k:Int):Int:=if k=0 then 1 else if k=1 then 2 else if k=2 then 4 else if k=3 then 8 else 0
def clsOf (s:Int):Int:=if s<1 then-1 else if s<=1 then 0 else if s<=2 then 1 else if s<=4 then 2 else if s<=8 then 3 else-1
theorem TC {k:Int}(h:inR k 0 3=false):clsSz k=0:=by rw[ym]at h;unfold clsSz;repeat' split<;>omega
theorem TD {k:Int}(h:inR k 0 3=true):JD .shl Za 1 k=clsSz k:=by
 rw[be]at h;rcases(show k=0\/k=1\/k=2\/k=3 by omega)with rfl|rfl|rfl|rfl<;>decide
theorem MV {k s:Int}(h0:0<=k/\k<=3)(h:clsSz k<s)(hs:1<=s/\s<=8):k+1<=3:=by
 rcases(show k=0\/k=1\/k=2\/k=3 by omega)with rfl|rfl|rfl|rfl<;>simp[clsSz]at h<;>omega
theorem Tw {s:Int}(h:s<1\/8<s):clsOf s= -1:=by unfold clsOf;repeat' split<;>omega
theorem Pf {k s:Int}(h0:0<=k/\k<=3)(h:s<=clsSz k)(hs:1<=s/\s<=8)(hp:k=0\/clsSz (k-1)<s):clsOf s=k:=by
 rcases(show k=0\/k=1\/k=2\/k=3 by omega)with rfl|rfl|rfl|rfl<;>simp[clsSz]at h hp<;>unfold clsOf<;>repeat' split<;>omega
end Go.V
namespace Go.V
theorem MR {s:Int}(h:0<=clsOf s):1<=s/\s<=clsSz (clsOf s)/\clsSz (clsOf s)<=8/\clsOf s<=3:=by
 unfold clsOf at h ⊢
 repeat' split at h
 all_goals simp_all [clsSz]
 all_goals omega
theorem DT {l:af}{i:Int}(h0:0<=i):zI (.s 1 l) [(i.toNat,0)]=ag l i 0:=by
 rw[zJ];unfold ag;rw[ZG]
theorem K6 {l:af}{i:Int}(h:Rw [tI] l)(h0:0<=i)(h1:i<l.length):∃ rec o,bQ (.s 1 l) [(i.toNat,0)]=some (rec,o)/\o+[L.v (Zi Za 0)].length<=rec.length/\Z7 [L.v (Zi Za 0)].length (Ym o rec)=js aj (.s 1 l) [(i.toNat,0)] 0 [L.v (Zi Za 0)]:=by
 have e:l.getD i.toNat []=[L.i (ag l i 0)]:=h.eta h0 h1;rw[Zm,Zu (by omega)]at e;have e1:l[i.toNat]?=some [.i (ag l i 0)]:=by
  rw[Zu (by omega)];exact congrArg some e
 refine⟨[.i (ag l i 0)],0,?_,Ze _,?_⟩
 ·rw[kP,e1];rfl
 ·show[L.i (ag l i 0)]=[L.i (zI (.s 1 l) [(i.toNat,0)])];rw[DT h0]
end Go.V
namespace Go.V
def yH (us:af)(j:Int):Bool:=pX us j 0
def dJ (us:af):Int:=match(Zo us.length).find? (fun j:Nat=> !pX us (j:Int) 0)with
 |some j=>(j:Int)
 |none=> -1
theorem free_at {us:af}{i:Int}(h:upto (yH us) i)(h0:0<=i)(h1:i<us.length)(h2:pX us i 0=false):dJ us=i:=by
 have e:((i.toNat:Nat):Int)=i:=Zr h0;have:(Zo us.length).find? (fun j:Nat=> !pX us (j:Int) 0)=some i.toNat:=by
  rw[XK];refine⟨by rw[e,h2];rfl,Yf.2 (by omega),fun j hj=>?_⟩;have:=h j (by omega) (by omega);unfold yH at this;rw[this];rfl
 unfold dJ;rw[this];exact e
theorem KY {us:af}{i:Int}(h:upto (yH us) i)(h1:(us.length:Int)<=i):dJ us= -1:=by
 have:(Zo us.length).find? (fun j:Nat=> !pX us (j:Int) 0)=none:=by
  rw[WO];intro j hj;have:=h j (by omega) (by omega);unfold yH at this;rw[this];rfl
 unfold dJ;rw[this]
theorem uG {us:af}:dJ us= -1\/0<=dJ us/\dJ us<us.length:=by
 unfold dJ;split
 ·rename_i j h;rw[XK]at h;have:=Yf.1 h.2.1;omega
 ·exact .inl rfl
def ftB (cs us:af):Bool:=framesOk cs us&&decide (0<=dJ us)
def ftI (cs us:af):Int:=if ftB cs us=true then dJ us else-1
def ftU (cs us:af):af:=if ftB cs us=true then us.set (dJ us).toNat [.v (.bool true)]else us
theorem Ng {cs us:af}(h:framesOk cs us=false\/dJ us= -1):ftB cs us=false/\ftI cs us= -1/\ftU cs us=us:=by
 have:ftB cs us=false:=by
  unfold ftB;rcases h with h|h
  ·rw[h];rfl
  ·rw[h];simp
 unfold ftI ftU;rw[this];exact⟨rfl,rfl,rfl⟩
theorem H2 {cs us:af}{i:Int}(hf:framesOk cs us=true)(h0:0<=i)(h:dJ us=i):ftB cs us=true/\ftI cs us=i/\ftU cs us=us.set i.toNat [.v (.bool true)]:=by
 have:ftB cs us=true:=by unfold ftB;rw[hf,h,VP h0];rfl
 unfold ftI ftU;rw[this,h];exact⟨rfl,rfl,rfl⟩
theorem H1 {a b a' b':af}{i i':Int}{x y:Bool}(h1:a=a')(h2:b=b')(h3:i=i')(h4:x=y):[DV.agg [.s 1 a,.s 1 b],DV.j i,DV.k x]=[DV.agg [.s 1 a',.s 1 b'],DV.j i',DV.k y]:=by rw[h1,h2,h3,h4]
theorem aaw {cs us:af}(h:ftB cs us=true):0<=ftI cs us/\ftI cs us<cs.length/\ftI cs us=dJ us/\ftU cs us=us.set (dJ us).toNat [.v (.bool true)]:=by
 have hf:framesOk cs us=true/\0<=dJ us:=by unfold ftB at h;simpa using h
 have q:=H2 hf.1 hf.2 rfl;have hb:=uG (us:=us);have hl:=su hf.1;rw[q.2.1,q.2.2];exact⟨hf.2,by omega,rfl,rfl⟩
theorem uC {fs:List Ty}{cs:af}{fr:Int}(h:Rw [.sl fs] cs)(h0:0<=fr)(h1:fr<cs.length):cs[fr.toNat]?=some [.s fs.length (aw cs fr 0)]:=by
 have e:cs.getD fr.toNat []=[.s fs.length (aw cs fr 0)]:=h.eta h0 h1;rw[Zm,Zu (by omega)]at e;rw[Zu (by omega)];simpa using e
theorem Bh {cs:af}{fr:Int}(h:Rw [.sl [tI,tI]] cs)(h0:0<=fr)(h1:fr<cs.length):∃ rec o,bQ (.s 1 cs) [(fr.toNat,0)]=some (rec,o)/\o+[L.s 2 []].length<=rec.length/\Z7 [L.s 2 []].length (Ym o rec)=js aj (.s 1 cs) [(fr.toNat,0)] 0 [L.s 2 []]:=by
 refine⟨[.s 2 (aw cs fr 0)],0,?_,Ze _,?_⟩
 ·show(cs[fr.toNat]?).map (·,0)=_;rw[uC h h0 h1];rfl
 ·show[L.s 2 (aw cs fr 0)]=[L.s 2 (kh (.s 1 cs) [(fr.toNat,0)])];rw[eE]
theorem sx {cs:af}{fr:Int}(h:Rw [.sl [tI,tI]] cs)(h0:0<=fr)(h1:fr<cs.length):∃ es,fC (.s 1 cs) [(fr.toNat,0)]=some (2,es):=by
 refine⟨aw cs fr 0,?_⟩;unfold fC;show(match(cs[fr.toNat]?).map (·,0)with
  | some (rec,o)=>match rec[o]? with
    |some (.s sz es)=>some (sz,es)
    |_=>none
  |none=>none)=_
 rw[uC h h0 h1];rfl
theorem zH {es:af}{f:Int}:∀ {n:Nat} {e:aT},e∈wv es f n->∃ k:Nat,k<n/\e=[.i k]
 |0,e,h=>by cases h
 | n+1,e,h=>by
   unfold wv at h;split at h
   ·rcases List.mem_append.1 h with q|q
    ·obtain⟨k,hk,e⟩:=zH q;exact⟨k,by omega,e⟩
    ·rw[List.mem_singleton]at q;exact⟨n,by omega,q⟩
   ·obtain⟨k,hk,e⟩:=zH h;exact⟨k,by omega,e⟩
theorem I7 {es:af}{f:Int}(h:es.length<=1099511627776):Rw [tI] (pagesOn es f):=by
 have hl:=yA (es:=es) (f:=f);refine⟨by simp[maxLen];omega,fun e he=>?_⟩;obtain⟨k,hk,rfl⟩:=zH he;exact⟨⟨rfl,(show-9223372036854775808<=(k:Int)/\(k:Int)<=9223372036854775807 by omega)⟩,trivial⟩
end Go.V
namespace Go.V
def cQ (p:Int->Bool)(n:Nat):Int:=match(Zo n).find? (fun j:Nat=>p (j:Int))with
 |some j=>(j:Int)
 |none=> -1
def cR (p:Int->Bool)(j:Int):Bool:= !p j
theorem gj {p:Int->Bool}{i:Int}(h:p i=false):cR p i=true:=by unfold cR;rw[h];rfl
theorem dI {p:Int->Bool}{n:Nat}{i:Int}(h:upto (cR p) i)(h0:0<=i)(h1:i<n)(h2:p i=true):cQ p n=i:=by
 have e:((i.toNat:Nat):Int)=i:=Zr h0;have:(Zo n).find? (fun j:Nat=>p (j:Int))=some i.toNat:=by
  rw[XK];refine⟨by rw[e];exact h2,Yf.2 (by omega),fun j hj=>?_⟩;exact h j (by omega) (by omega)
 unfold cQ;rw[this];exact e
theorem eN {p:Int->Bool}{n:Nat}{i:Int}(h:upto (cR p) i)(h1:(n:Int)<=i):cQ p n= -1:=by
 have:(Zo n).find? (fun j:Nat=>p (j:Int))=none:=by
  rw[WO];intro j hj;exact h j (by omega) (by omega)
 unfold cQ;rw[this]
theorem qP {p:Int->Bool}{n:Nat}:cQ p n= -1\/0<=cQ p n/\cQ p n<n:=by
 unfold cQ;split
 ·rename_i j h;rw[XK]at h;have:=Yf.1 h.2.1;omega
 ·exact .inl rfl
def eqB (a b:Int):Bool:=decide (a=b)
theorem ya {a b:Int}(h:a=b):eqB a b=true:=VP h
theorem A5 {a b:Int}(h:a≠b):eqB a b=false:=VQ h
end Go.V
namespace Go.V
def BV (f:Int->Int):Nat->Int
 |0=>0
 |n+1=>bO .add Za (BV f n) (f n)
theorem Mr {f:Int->Int}{i:Int}(h:0<=i):BV f (i+1).toNat=bO .add Za (BV f i.toNat) (f i):=by
 have e:((i.toNat:Nat):Int)=i:=Zr h;rw[show(i+1).toNat=i.toNat+1 by omega,BV,e]
def szF (os:af)(i:Int):Int:=ag os i 2
def lsI (os:af):Int:=BV (szF os) os.length
def Br (os:af)(a j:Int):Bool:=eqB (ag os j 1) a
def obI (os:af)(a:Int):Int:=cQ (Br os a) os.length
def isSp (ss:af)(p j:Int):Bool:=eqB (ag ss j 0) p
def spI (ss:af)(p:Int):Int:=cQ (isSp ss p) ss.length
end Go.V
namespace Go.V
def rL (x:Int):BitVec 64:=ZV 64 x
theorem Ay (x:BitVec 64):YY Za (x.toNat:Int)=x.toInt:=by
 have h:=x.isLt;rw[BitVec.toInt_eq_toNat_cond];simp only[YY,WP,WQ,Bool.true_and,VR,show(64-1:Nat)=63 from rfl];split<;>split<;>omega
theorem ab7 {a b:Int}:bO .or Za a b=(rL a|||rL b).toInt:=Ay _
theorem OY {x:BitVec 64}:rL x.toInt=x:=BitVec.ofInt_toInt
def fpg (es:af)(p:Int):af:=if peM es p=0 then[]else pagesOn es (peF es p)
theorem PP {es:af}{p:Int}(h:peM es p=0):fpg es p=[]:=by unfold fpg;rw[VT h]
theorem KX {es:af}{p:Int}(h:peM es p≠0):fpg es p=pagesOn es (peF es p):=by unfold fpg;rw[VU h]
theorem PQ {es:af}{p:Int}(h:es.length<=1099511627776):Rw [tI] (fpg es p)/\(fpg es p).length<=1099511627776:=by
 unfold fpg;split;exact⟨Rw.nil,by simp⟩;exact⟨I7 h,ZN yA h⟩
def isX (l:af)(x j:Int):Bool:=eqB x (ag l j 0)
def idxI (l:af)(x:Int):Int:=cQ (isX l x) l.length
def hasB (l:af)(x:Int):Bool:=decide (0<=idxI l x)
def GF (ss l:af)(b:Int):Nat->Int
 |0=>b
 |n+1=>if hasB l (ag ss n 0)=true then bO .or Za (GF ss l b n) (ag ss n 2)else GF ss l b n
theorem Mw {ss l:af}{b i:Int}(h:0<=i)(q:hasB l (ag ss i 0)=true):GF ss l b (i+1).toNat=bO .or Za (GF ss l b i.toNat) (ag ss i 2):=by
 have e:((i.toNat:Nat):Int)=i:=Zr h;rw[show(i+1).toNat=i.toNat+1 by omega,GF,e,VT q]
theorem RX {ss l:af}{b i:Int}(h:0<=i)(q:hasB l (ag ss i 0)=false):GF ss l b (i+1).toNat=GF ss l b i.toNat:=by
 have e:((i.toNat:Nat):Int)=i:=Zr h;rw[show(i+1).toNat=i.toNat+1 by omega,GF,e,q];rfl
def ubB (es ss:af)(i:Int):Int:=if inR i 0 (ss.length-1)=true then GF ss (fpg es (ag ss i 0)) (ag ss i 2) ss.length else 0
theorem ac2 {es ss:af}{i:Int}(h:inR i 0 (ss.length-1)=false):ubB es ss i=0:=by unfold ubB;rw[h];rfl
theorem RY {es ss:af}{i:Int}(h:inR i 0 (ss.length-1)=true):ubB es ss i=GF ss (fpg es (ag ss i 0)) (ag ss i 2) ss.length:=by unfold ubB;rw[VT h]
end Go.V
namespace Go.V
def slB (b i:Int):Bool:=decide (0<=b)&&inR i 0 15
def hsB (b i:Int):Bool:=slB b i&&decide (bO .and Za (JD .shr Za b i) 1=1)
theorem BQ {b i:Int}:slB b i=true↔0<=b/\0<=i/\i<=15:=by simp[slB,inR]
theorem Ib {b i:Int}(h:slB b i=false):hsB b i=false:=by unfold hsB;rw[h];rfl
theorem xp {i:Int}(h0:0<=i)(h1:i<=15):Oo .u64 i=i:=by
 show YY .u64 i=i;simp only[YY,WP,WQ,Bool.false_and];rw[VU (by simp)];omega
def ctN (b:Int):Nat->Int
 |0=>0
 |n+1=>if hsB b n=true then bO .add Za (ctN b n) 1 else ctN b n
def ctI (b:Int):Int:=ctN b 16
def afv (ss:af)(i:Int):aT:=[.i (ag ss i 0),.i (ag ss i 1),.i (ag ss i 2)]
def msN (es ss:af):Nat->af
 |0=>[]
 |n+1=>if 0<ctI (ag ss n 2)/\(fpg es (ag ss n 0)).length=1 then msN es ss n++[afv ss n]else msN es ss n
def msS (es ss:af):af:=msN es ss ss.length
end Go.V
namespace Go.V
def xS:af:=Zt 16 [.i 0]
def fnC (n:Int):af:=if inR n 1 32=true then Zt n.toNat [.s 1 xS]else[]
def fnU (n:Int):af:=if inR n 1 32=true then Zt n.toNat [.v (.bool false)]else[]
def tnE (n:Int):af:=if inR n 1 32=true then Zt n.toNat [.i 0,.i 0]else[]
theorem oC {n:Int}(h:inR n 1 32=true):fnC n=Zt n.toNat [.s 1 xS]/\fnU n=Zt n.toNat [.v (.bool false)]/\tnE n=Zt n.toNat [.i 0,.i 0]:=by
 unfold fnC fnU tnE;rw[VT h,VT h,VT h];exact⟨rfl,rfl,rfl⟩
theorem M7 {n:Int}(h:inR n 1 32=false):fnC n=[]/\fnU n=[]/\tnE n=[]:=by
 unfold fnC fnU tnE;rw[h];exact⟨rfl,rfl,rfl⟩
theorem Ji {r:aT}{i:Int}(h:0<=i):Zt i.toNat r++[r]=Zt (i+1).toNat r:=by
 rw[show(i+1).toNat=i.toNat+1 by omega,List.replicate_succ']
def mnB (p f:Int):Bool:=inR f 1 32&&inR p 1 32
def mnC (p f:Int):af:=if mnB p f=true then fnC f else[]
def mnU (p f:Int):af:=if mnB p f=true then fnU f else[]
def mnE (p f:Int):af:=if mnB p f=true then tnE p else[]
theorem oJ {p f:Int}(h:inR f 1 32=true)(h2:inR p 1 32=true):mnC p f=fnC f/\mnU p f=fnU f/\mnE p f=tnE p/\mnB p f=true:=by
 have e:mnB p f=true:=by unfold mnB;rw[h,h2];rfl
 unfold mnC mnU mnE;rw[VT e,VT e,VT e];exact⟨rfl,rfl,rfl,e⟩
theorem BA {p f:Int}(h:mnB p f=false):mnC p f=[]/\mnU p f=[]/\mnE p f=[]/\mnB p f=false:=by
 unfold mnC mnU mnE;rw[h];exact⟨rfl,rfl,rfl,rfl⟩
theorem QQ {p f:Int}(h:inR f 1 32=false):mnB p f=false:=by unfold mnB;rw[h];rfl
theorem QR {p f:Int}(h:inR p 1 32=false):mnB p f=false:=by unfold mnB;rw[h];simp
theorem QS {p f:Int}(h:mnB p f=true):inR f 1 32=true/\inR p 1 32=true:=by unfold mnB at h;simpa using h
def Gt (rs:af)(i:Int):Bool:=decide (0<=ag rs i 0)
def mI (rs:af):Bool:=cT (Gt rs) rs.length&&decide (rs.length<=40)
def kerOk (cs us es:af)(c:Int)(rs:af):Bool:=machOk cs us es&&inR c 0 100000&&mI rs
theorem Rm {rs:af}{i:Int}(h:0<=ag rs i 0):Gt rs i=true:=VP h
theorem Rn {cs us es rs:af}{c i:Int}(h0:0<=i)(h1:i<rs.length)(h:ag rs i 0<0):kerOk cs us es c rs=false:=by
 unfold kerOk mI;rw[cN h0 h1 (by unfold Gt;exact VQ (by omega))];simp
theorem L5 {rs:af}{i:Int}(h:upto (Gt rs) i)(hi:(rs.length:Int)<=i)(hl:(rs.length:Int)<=40):mI rs=true:=by
 unfold mI;rw[cu h hi,VP (by omega)];rfl
theorem L4 {rs:af}(hl:¬ (rs.length:Int)<=40):mI rs=false:=by
 unfold mI;rw[VQ (by omega)];simp
theorem E4 {cs us es rs:af}{c:Int}(h1:machOk cs us es=true)(h2:inR c 0 100000=true)(h3:mI rs=true):kerOk cs us es c rs=true:=by unfold kerOk;rw[h1,h2,h3];rfl
theorem Lj {cs us es rs:af}{c:Int}(h1:inR c 0 100000=false):kerOk cs us es c rs=false:=by unfold kerOk;rw[h1];simp
theorem Lk {cs us es rs:af}{c:Int}(h1:mI rs=false):kerOk cs us es c rs=false:=by unfold kerOk;rw[h1];simp
theorem abp {cs us es rs:af}{c:Int}(h:kerOk cs us es c rs=true):machOk cs us es=true/\inR c 0 100000=true/\mI rs=true:=by
 unfold kerOk at h;simp only[Zc]at h;exact⟨h.1.1,h.1.2,h.2⟩
theorem rq {r:aT}{n:Nat}{i:Int}(h0:0<=i)(h1:i<n):(Zt n r).getD i.toNat []=r:=by
 rw[Zm,List.getElem?_replicate,VT (by omega)];rfl
theorem DD {n:Nat}{i:Int}{j:Nat}(h0:0<=i)(h1:i<n)(hj:j<2):ag (Zt n [.i 0,.i 0]) i j=0:=by
 unfold ag;rw[rq h0 h1];rcases(show j=0\/j=1 by omega)with rfl|rfl<;>rfl
theorem Gs {n:Nat}{f:Int}:pagesOn (Zt n [.i 0,.i 0]) f=[]:=by
 have key:∀ m,m<=n->wv (Zt n [.i 0,.i 0]) f m=[]:=by
  intro m
  induction m with
  |zero=>intro _;rfl
  | succ m ih=>
    intro h;rw[Jb (.inl (DD (by omega) (by omega) (by omega)))];exact ih (by omega)
 unfold pagesOn;exact key _ (by simp)
theorem IR {f p:Int}(hf:inR f 1 32=true)(hp:inR p 1 32=true):machOk (fnC f) (fnU f) (tnE p)=true:=by
 have h1:=be.1 hf;have h2:=be.1 hp;rw[(oC hf).1,(oC hf).2.1,(oC hp).2.2];have fo:framesOk (Zt f.toNat [.s 1 xS]) (Zt f.toNat [.v (.bool false)])=true:=by
  refine C4 (i:=f) ?_ (by simp) ?_ (by simp;omega)
  ·rw[Xv,be];omega
  ·intro j j0 j1;have e:aw (Zt f.toNat [.s 1 xS]) j 0=xS:=by unfold aw;rw[rq j0 (by omega)];rfl
   refine HZ (k:=16) (by rw[e];rfl) ?_ (by omega);intro k k0 k1;have e2:ag xS k 0=0:=by unfold ag xS;rw[rq k0 (by omega)];rfl
   refine Hq (by rw[e,e2];rfl) (.inr (by rw[e,e2]))
 have to:tableOk (Zt p.toNat [.i 0,.i 0]) (Zt f.toNat [L.s 1 xS]).length=true:=by
  rw[Ee (i:=p) ?_ (by simp;omega)]
  ·rw[Xv,be];omega
  ·intro j j0 j1;refine JM ?_;rw[DD j0 (by omega) (by omega),DD j0 (by omega) (by omega)];omega
 refine Dy (i:=f) fo ?_ ?_ (by simp;omega)
 ·rw[(su fo).1];exact to
 ·intro j j0 j1;refine IG ?_;have e:pX (Zt f.toNat [.v (.bool false)]) j 0=false:=by unfold pX;rw[rq j0 (by omega)];rfl
  rw[e];unfold fh;rw[Gs];rfl
def knB (p f:Int)(rs:af):Bool:=mnB p f&&mI rs
def knC (p f:Int)(rs:af):af:=if knB p f rs=true then fnC f else[]
def knU (p f:Int)(rs:af):af:=if knB p f rs=true then fnU f else[]
def knE (p f:Int)(rs:af):af:=if knB p f rs=true then tnE p else[]
def knR (p f:Int)(rs:af):af:=if knB p f rs=true then rs else[]
theorem Ix {p f:Int}{rs:af}(h:knB p f rs=true):knC p f rs=fnC f/\knU p f rs=fnU f/\knE p f rs=tnE p/\knR p f rs=rs:=by
 unfold knC knU knE knR;rw[VT h,VT h,VT h,VT h];exact⟨rfl,rfl,rfl,rfl⟩
theorem Nr {p f:Int}{rs:af}(h:knB p f rs=false):knC p f rs=[]/\knU p f rs=[]/\knE p f rs=[]/\knR p f rs=[]:=by
 unfold knC knU knE knR;rw[h];exact⟨rfl,rfl,rfl,rfl⟩
theorem P1:XJ Za 0:=by unfold XJ;decide
theorem Dz {p f:Int}:Rw [.sl [tI]] (mnC p f)/\Rw [tB] (mnU p f)/\Rw [tI,tI] (mnE p f):=by
 cases h:mnB p f
 ·rw[(BA h).1,(BA h).2.1,(BA h).2.2.1];exact⟨Rw.nil,Rw.nil,Rw.nil⟩
 ·obtain⟨hf,hp⟩:=QS h;rw[(oJ hf hp).1,(oJ hf hp).2.1,(oJ hf hp).2.2.1,(oC hf).1,(oC hf).2.1,(oC hp).2.2];have h1:=be.1 hf;have h2:=be.1 hp;have z:bR [tI] [L.i 0]:=⟨⟨rfl,P1⟩,trivial⟩;refine⟨Rw.replicate (fs:=[.sl [tI]]) ?_ (by unfold maxLen;omega),Rw.replicate (fs:=[tB]) ?_ (by unfold maxLen;omega),Rw.replicate (fs:=[tI,tI]) ?_ (by unfold maxLen;omega)⟩;exact⟨⟨rfl,Rw.replicate (fs:=[tI]) z (by unfold maxLen;omega)⟩,trivial⟩;exact⟨trivial,trivial⟩;exact⟨⟨rfl,P1⟩,⟨rfl,P1⟩,trivial⟩
theorem LG {p f:Int}(h:mnB p f=true):machOk (mnC p f) (mnU p f) (mnE p f)=true:=by
 obtain⟨hf,hp⟩:=QS h;rw[(oJ hf hp).1,(oJ hf hp).2.1,(oJ hf hp).2.2.1];exact IR hf hp
theorem abr {p f:Int}{rs:af}(h:mnB p f=true)(k:kerOk (mnC p f) (mnU p f) (mnE p f) 0 rs=true):knB p f rs=true:=by
 unfold knB;rw[h,(abp k).2.2];rfl
theorem Qs {p f:Int}{rs:af}(h:mnB p f=true)(k:kerOk (mnC p f) (mnU p f) (mnE p f) 0 rs=false):knB p f rs=false:=by
 unfold knB;cases q:mI rs
 ·simp
 ·rw[E4 (LG h) rfl q]at k;cases k
theorem Lm {p f:Int}{rs:af}(h:mnB p f=false):knB p f rs=false:=by unfold knB;rw[h];rfl
theorem afd {p f:Int}{rs:af}(h:knB p f rs=true):mnB p f=true:=by unfold knB at h;simp only[Zc]at h;exact h.1
def mwB (t:Int):af:=if inR t 1 4=true then Zt t.toNat [.s 2 []]else[]
def mwI (t:Int):af:=if inR t 1 4=true then Zt t.toNat [.s 1 []]else[]
theorem QV {t:Int}(h:inR t 1 4=true):mwB t=Zt t.toNat [.s 2 []]/\mwI t=Zt t.toNat [.s 1 []]:=by unfold mwB mwI;rw[VT h,VT h];exact⟨rfl,rfl⟩
theorem abL {t:Int}(h:inR t 1 4=false):mwB t=[]/\mwI t=[]:=by unfold mwB mwI;rw[h];exact⟨rfl,rfl⟩
def qnR (r:Int):Int:=if inR r 0 500=true then r else 0
theorem Ri {r:Int}(h:inR r 0 500=true):qnR r=r:=by unfold qnR;rw[VT h]
theorem acx {r:Int}(h:inR r 0 500=false):qnR r=0:=by unfold qnR;rw[h];rfl
def cnL:af:=Zt 4 [.s 1 []]
def hnB (p f t l:Int)(rs:af):Bool:=knB p f rs&&(inR t 1 4&&inR l 0 1000)
def hnC (p f t l:Int)(rs:af):af:=if hnB p f t l rs=true then fnC f else[]
def hnU (p f t l:Int)(rs:af):af:=if hnB p f t l rs=true then fnU f else[]
def hnE (p f t l:Int)(rs:af):af:=if hnB p f t l rs=true then tnE p else[]
def hnR (p f t l:Int)(rs:af):af:=if hnB p f t l rs=true then rs else[]
def hnF (p f t l:Int)(rs:af):af:=if hnB p f t l rs=true then[[.i 0,.i p]]else[]
def hnK (p f t l:Int)(rs:af):af:=if hnB p f t l rs=true then Zt t.toNat [.s 1 cnL]else[]
def hnM (p f t l:Int)(rs:af):af:=if hnB p f t l rs=true then mwB t else[]
def hnI (p f t l:Int)(rs:af):af:=if hnB p f t l rs=true then mwI t else[]
def hnQ (p f t l:Int)(rs:af):Int:=if hnB p f t l rs=true then 16 else 0
def hnL (p f t l:Int)(rs:af):Int:=if hnB p f t l rs=true then l else 0
def hnN (p f t l:Int)(rs:af):Int:=if hnB p f t l rs=true then 1 else 0
theorem P6 {p f t l:Int}{rs:af}(h:hnB p f t l rs=true):hnC p f t l rs=fnC f/\hnU p f t l rs=fnU f/\hnE p f t l rs=tnE p/\hnR p f t l rs=rs/\hnF p f t l rs=[[.i 0,.i p]]/\
 hnK p f t l rs=Zt t.toNat [.s 1 cnL]/\hnM p f t l rs=mwB t/\hnI p f t l rs=mwI t/\hnQ p f t l rs=16/\hnL p f t l rs=l/\hnN p f t l rs=1:=by
 unfold hnC hnU hnE hnR hnF hnK hnM hnI hnQ hnL hnN;simp only[h,if_true];exact⟨trivial,trivial,trivial,trivial,trivial,trivial,trivial,trivial,trivial,trivial,trivial⟩
theorem aaU {p f t l:Int}{rs:af}(h:hnB p f t l rs=false):hnC p f t l rs=[]/\hnU p f t l rs=[]/\hnE p f t l rs=[]/\hnR p f t l rs=[]/\hnF p f t l rs=[]/\
 hnK p f t l rs=[]/\hnM p f t l rs=[]/\hnI p f t l rs=[]/\hnQ p f t l rs=0/\hnL p f t l rs=0/\hnN p f t l rs=0:=by
 unfold hnC hnU hnE hnR hnF hnK hnM hnI hnQ hnL hnN;simp[h]
theorem P5 {p f t l:Int}{rs:af}:hnB p f t l rs=true↔knB p f rs=true/\inR t 1 4=true/\inR l 0 1000=true:=by unfold hnB;simp
theorem aeB {p f t l:Int}{rs:af}(h:¬ (knB p f rs=true/\inR t 1 4=true/\inR l 0 1000=true)):hnB p f t l rs=false:=by
 cases q:hnB p f t l rs
 ·rfl
 ·exact absurd (P5.1 q) h
theorem Nl {c u e r fr k m i c' u' e' r' fr' k' m' i':af}{q l n q' l' n':Int}{b b':Bool}(h1:c=c')(h2:u=u')(h3:e=e')(h4:r=r')(h5:fr=fr')(h6:k=k')(h7:m=m')(h8:i=i')(h9:q=q')(h10:l=l')(h11:n=n')(h12:b=b'):
 [DV.agg (Lb c u e 0 r fr [] [] [] k m i q [] 0 0 l n false 0 0 [] 0 0),.k b]=
 [DV.agg (Lb c' u' e' 0 r' fr' [] [] [] k' m' i' q' [] 0 0 l' n' false 0 0 [] 0 0),.k b']:=by
 subst h1 h2 h3 h4 h5 h6 h7 h8 h9 h10 h11 h12;rfl
theorem Jm {c u e r c' u' e' r':af}{b b':Bool}(h1:c=c')(h2:u=u')(h3:e=e')(h4:r=r')(h5:b=b'):
 [DV.agg [.s 1 c,.s 1 u,.s 2 e,.i 0,.s 1 r],.k b]=[DV.agg [.s 1 c',.s 1 u',.s 2 e',.i 0,.s 1 r'],.k b']:=by subst h1 h2 h3 h4 h5;rfl
theorem Jn {c u e c' u' e':af}{b b':Bool}(h1:c=c')(h2:u=u')(h3:e=e')(h5:b=b'):
 [DV.agg [.s 1 c,.s 1 u,.s 2 e],.k b]=[DV.agg [.s 1 c',.s 1 u',.s 2 e'],.k b']:=by subst h1 h2 h3 h5;rfl
theorem FB {k1 k2:Nat}{c u c' u':af}{b b':Bool}(h1:c=c')(h2:u=u')(h5:b=b'):
 [DV.agg [.s k1 c,.s k2 u],.k b]=[DV.agg [.s k1 c',.s k2 u'],.k b']:=by subst h1 h2 h5;rfl
theorem NO {k1:Nat}{c c':af}{b b':Bool}(h1:c=c')(h5:b=b'):
 [DV.agg [.s k1 c],.k b]=[DV.agg [.s k1 c'],.k b']:=by subst h1 h5;rfl
theorem NZ {q q':Int}{b b':Bool}(h1:q=q')(h5:b=b'):
 [DV.agg [.i q,.s 3 []],.k b]=[DV.agg [.i q',.s 3 []],.k b']:=by subst h1 h5;rfl
end Go.V
namespace Go.V
def tU:Ty:=.int .u8
theorem F2 {a:Int}{m:Nat}(hm:m<=4611686018427387904):0<=bO .and Za a m/\bO .and Za a m<=m:=by
 have h1:(ZV 64 a&&&ZV 64 (m:Int)).toNat<=m:=by
  rw[BitVec.toNat_and];refine ZN Nat.and_le_right ?_;rw[BitVec.toNat_ofInt,Int.emod_eq_of_lt (by omega) (by omega)];omega
 have h2:bO .and Za a m=((ZV 64 a&&&ZV 64 (m:Int)).toNat:Int):=by
  show YY Za _=_;refine YZ _ ⟨?_,?_⟩;exact Wb (by decide) (Int.natCast_nonneg _);exact Wb (Int.ofNat_le.2 h1) (by omega)
 rw[h2];omega
def bH (h:Int):Int:=bO .add Za (bO .mul Za h 6364136223846793005) 1442695040888963407
def bY (h:Int):Int:=bO .and Za (bO .xor Za (JD .shr Za (bH h) 33) (JD .shr Za (bH h) 45)) 255
def bI (cs:af)(i:Int):Int:=if i<cs.length then i+1 else i
def bX (cs:af)(i h:Int):Int:=if i<cs.length then bO .and Za (bO .add Za (bY h) (Oo Za (ag cs i 0))) 255 else bY h
theorem MM {cs:af}{i h:Int}(q:i<cs.length):bI cs i=i+1/\bX cs i h=bO .and Za (bO .add Za (bY h) (Oo Za (ag cs i 0))) 255:=by unfold bI bX;rw[VT q,VT q];exact⟨rfl,rfl⟩
theorem S8 {cs:af}{i h:Int}(q:¬ i<cs.length):bI cs i=i/\bX cs i h=bY h:=by unfold bI bX;rw[VU q,VU q];exact⟨rfl,rfl⟩
theorem vf {cs:af}{i:Int}(h0:0<=i)(h1:i<=cs.length):0<=bI cs i/\bI cs i<=cs.length:=by unfold bI;split<;>omega
theorem AS {cs:af}{i h:Int}:0<=bX cs i h/\bX cs i h<=255:=by
 unfold bX bY;split<;>exact F2 (m:=255) (by decide)
def wI (cs:af)(i n:Int):Int:=if n<=0 then i else if n<=256 then bI cs i else bI cs (bI cs (bI cs (bI cs i)))
def wH (h n:Int):Int:=if n<=0 then h else if n<=256 then bH h else bH (bH (bH (bH h)))
def wS (x y z w:Int):Int:=bO .add Za (bO .add Za (bO .add Za (bO .mul Za x 16777216) (bO .mul Za y 65536)) (bO .mul Za z 256)) w
def wX (cs:af)(i h n:Int):Int:=if n<=0 then 0 else if n<=256 then bO .rem Za (bX cs i h) n else
 bO .rem Za (wS (bX cs i h) (bX cs (bI cs i) (bH h)) (bX cs (bI cs (bI cs i)) (bH (bH h))) (bX cs (bI cs (bI cs (bI cs i))) (bH (bH (bH h))))) n
theorem w_0 {cs:af}{i h n:Int}(q:n<=0):wI cs i n=i/\wH h n=h/\wX cs i h n=0:=by unfold wI wH wX;rw[VT q,VT q,VT q];exact⟨rfl,rfl,rfl⟩
theorem w_1 {cs:af}{i h n:Int}(q:0<n)(q2:n<=256):wI cs i n=bI cs i/\wH h n=bH h/\wX cs i h n=bO .rem Za (bX cs i h) n:=by
 have q3:¬ n<=0:=by omega
 unfold wI wH wX;simp only[VU q3,VT q2];exact⟨trivial,trivial,trivial⟩
theorem w_4 {cs:af}{i h n:Int}(q2:256<n):wI cs i n=bI cs (bI cs (bI cs (bI cs i)))/\wH h n=bH (bH (bH (bH h)))/\
 wX cs i h n=bO .rem Za (wS (bX cs i h) (bX cs (bI cs i) (bH h)) (bX cs (bI cs (bI cs i)) (bH (bH h))) (bX cs (bI cs (bI cs (bI cs i))) (bH (bH (bH h))))) n:=by
 have q3:¬ n<=0:=by omega
 have q4:¬ n<=256:=by omega
 unfold wI wH wX;simp only[VU q3,VU q4];exact⟨trivial,trivial,trivial⟩
theorem adb {cs:af}{i n:Int}(h0:0<=i)(h1:i<=cs.length):0<=wI cs i n/\wI cs i n<=cs.length:=by
 have a:=vf h0 h1;have b:=vf a.1 a.2;have c:=vf b.1 b.2;have d:=vf c.1 c.2;unfold wI;split;exact⟨h0,h1⟩
 ·split;exact a;exact d
theorem IQ {a b:Int}(h: -9223372036854775808<=a*b/\a*b<=9223372036854775807):bO .mul Za a b=a*b:=YZ _ h
theorem sI {a n:Int}(ha:0<=a)(hn:0<n):0<=bO .rem Za a n/\bO .rem Za a n<n:=by
 show 0<=a.tmod n/\a.tmod n<n;rw[WN ha];exact⟨Int.emod_nonneg _ (by omega),Int.emod_lt_of_pos _ hn⟩
theorem adc {cs:af}{i h n:Int}(hn:0<n):0<=wX cs i h n/\wX cs i h n<n:=by
 unfold wX;rw[VU (by omega)];split;exact sI AS.1 hn
 ·have x:=AS (cs:=cs) (i:=i) (h:=h);have y:=AS (cs:=cs) (i:=bI cs i) (h:=bH h);have z:=AS (cs:=cs) (i:=bI cs (bI cs i)) (h:=bH (bH h));have w:=AS (cs:=cs) (i:=bI cs (bI cs (bI cs i))) (h:=bH (bH (bH h)));refine sI ?_ hn;generalize bX cs i h=x0 at*;generalize bX cs (bI cs i) (bH h)=y0 at*;generalize bX cs (bI cs (bI cs i)) (bH (bH h))=z0 at*;generalize bX cs (bI cs (bI cs (bI cs i))) (bH (bH (bH h)))=w0 at*;unfold wS;have m1:bO .mul Za x0 16777216=x0*16777216:=IQ (by omega);have m2:bO .mul Za y0 65536=y0*65536:=IQ (by omega);have m3:bO .mul Za z0 256=z0*256:=IQ (by omega);rw[m1,m2,m3];have a1:bO .add Za (x0*16777216) (y0*65536)=x0*16777216+y0*65536:=cG (by omega);rw[a1];have a2:bO .add Za (x0*16777216+y0*65536) (z0*256)=x0*16777216+y0*65536+z0*256:=cG (by omega);rw[a2];have a3:bO .add Za (x0*16777216+y0*65536+z0*256) w0=x0*16777216+y0*65536+z0*256+w0:=cG (by omega);rw[a3];omega
def tz (cs:af):Nat->Int
 |0=>bO .add Za 98801 cs.length
 |n+1=>bO .and Za (bO .add Za (bO .add Za (bO .mul Za (tz cs n) 131) (Oo Za (ag cs n 0))) 7) 1073741823
def l01h (cs:af):Int:=tz cs (min cs.length 4000)
theorem Lo {cs:af}{i:Int}(h0:0<=i):tz cs (i+1).toNat=bO .and Za (bO .add Za (bO .add Za (bO .mul Za (tz cs i.toNat) 131) (Oo Za (ag cs i 0))) 7) 1073741823:=by
 have e:((i.toNat:Nat):Int)=i:=Zr h0;rw[show(i+1).toNat=i.toNat+1 by omega,tz,e]
theorem Iy {cs:af}{i:Int}(h0:0<=i)(h1:i<=cs.length)(h2:i<=4000)(h3:¬ (i<cs.length/\i<4000)):tz cs i.toNat=l01h cs:=by
 unfold l01h;congr 1;omega
def dpS (cs:af)(s:Int×Int×af):Int×Int×af:=(wI cs s.1 10000,wH s.2.1 10000,s.2.2++[[.i (wX cs s.1 s.2.1 10000)]])
def A4 (cs:af):Nat->Int×Int×af
 |0=>(0,l01h cs,[])
 |n+1=>dpS cs (A4 cs n)
def dpl (cs:af):af:=(A4 cs 12).2.2
theorem TY {cs:af}{i:Int}(h0:0<=i):A4 cs (i+1).toNat=dpS cs (A4 cs i.toNat):=by
 rw[show(i+1).toNat=i.toNat+1 by omega,A4]
theorem EK {cs:af}:∀ n,0<=(A4 cs n).1/\(A4 cs n).1<=cs.length/\(A4 cs n).2.2.length=n/\∀ j:Nat,j<n->∃ x:Int,0<=x/\x<10000/\(A4 cs n).2.2.getD j []=[.i x]
 |0=>⟨Yg _,by show(0:Int)<=_;omega,rfl,fun j hj=>by omega⟩
 | n+1=>by
   obtain⟨h1,h2,h3,h4⟩:=EK (cs:=cs) n;have w:=adb (n:=10000) h1 h2;have x:=adc (cs:=cs) (i:=(A4 cs n).1) (h:=(A4 cs n).2.1) (n:=10000) (by omega);refine⟨w.1,w.2,by simp[A4,dpS,h3],fun j hj=>?_⟩;simp only[A4,dpS];by_cases c:j<n
   ·obtain⟨y,q1,q2,q3⟩:=h4 j c;refine⟨y,q1,q2,?_⟩;rw[Zm,List.getElem?_append_left (by omega), <-Zm];exact q3
   ·refine⟨_,x.1,x.2,?_⟩;have e:j=(A4 cs n).2.2.length:=by omega
    rw[Zm,e];simp
theorem zd {cs:af}:(dpl cs).length=12:=(EK 12).2.2.1
theorem HL {cs:af}{j:Int}(h0:0<=j)(h1:j<12):0<=ag (dpl cs) j 0/\ag (dpl cs) j 0<10000/\(dpl cs).getD j.toNat []=[.i (ag (dpl cs) j 0)]:=by
 obtain⟨x,q1,q2,q3⟩:=(EK (cs:=cs) 12).2.2.2 j.toNat (by omega);have e:ag (dpl cs) j 0=x:=by unfold ag dpl;rw[q3];rfl
 rw[e];exact⟨q1,q2,q3⟩
theorem Px {cs:af}:Rw [tI] (dpl cs):=by
 refine⟨by rw[zd];decide,fun e he=>?_⟩;obtain⟨j,hj⟩:=List.getElem?_of_mem he;have hl:j<12:=by rw[<-zd (cs:=cs)];exact(List.getElem?_eq_some_iff.1 hj).1
 obtain⟨h1,h2,h3⟩:=HL (cs:=cs) (j:=j) (by omega) (by omega);rw[ZG,Zm,hj]at h3;have h3:e=_:=h3;rw[h3];have hh:XJ Za (ag (dpl cs) (j:Int) 0):=by show-9223372036854775808<=_/\_<=(9223372036854775807:Int);omega
 exact⟨⟨rfl,hh⟩,trivial⟩
end Go.V
namespace Go.V
end Go.V
namespace Go.V
theorem qI {a b:af}:ap (a++b)=ap a+ap b:=by unfold ap;rw[ez,Zf];omega
end Go.V
namespace Go.V
def slN (k:Int):Int:=if inR k 0 3=true then 16/clsSz k else 0
theorem Pg {k:Int}(h:inR k 0 3=true):k=0\/k=1\/k=2\/k=3:=by have:=be.1 h;omega
theorem mz {k:Int}(h:inR k 0 3=true):1<=clsSz k/\clsSz k<=8/\2<=slN k/\slN k<=16/\slN k*clsSz k=16:=by
 rcases Pg h with rfl|rfl|rfl|rfl<;>decide
theorem JE {k:Int}(h:inR k 0 3=true):bO .quo Za 16 (clsSz k)=slN k:=by
 rcases Pg h with rfl|rfl|rfl|rfl<;>decide
theorem JF {k:Int}(h:inR k 0 3=false):slN k=0:=by unfold slN;rw[h];rfl
def bmOk (n b:Int):Bool:=inR n 1 16&&inR b 0 (2^n.toNat-1)
theorem acP {n:Int}(h:inR n 1 16=true):bO .sub Za (JD .shl Za 1 n) 1=2^n.toNat-1/\bO .sub Za (JD .shl Za 1 (Oo .u64 n)) 1=2^n.toNat-1/\0<=Oo .u64 n:=by
 have q:=be.1 h;have:n=1\/n=2\/n=3\/n=4\/n=5\/n=6\/n=7\/n=8\/n=9\/n=10\/n=11\/n=12\/n=13\/n=14\/n=15\/n=16:=by omega
 rcases this with rfl|rfl|rfl|rfl|rfl|rfl|rfl|rfl|rfl|rfl|rfl|rfl|rfl|rfl|rfl|rfl<;>decide
theorem Td {n b:Int}(h:inR n 1 16=false):bmOk n b=false:=by unfold bmOk;rw[h];rfl
theorem OW {n b:Int}(h:inR n 1 16=true):bmOk n b=inR b 0 (2^n.toNat-1):=by unfold bmOk;rw[h];rfl
def spOk (p k b:Int):Bool:=inR p 0 31&&bmOk (slN k) b
theorem Hg {k b:Int}(h:inR k 0 3=false):bmOk (slN k) b=false:=by rw[JF h];rfl
theorem RF {p k b:Int}(h:inR p 0 31=false):spOk p k b=false:=by unfold spOk;rw[h];rfl
theorem RG {p k b:Int}(h:inR k 0 3=false):spOk p k b=false:=by unfold spOk;rw[Hg h,Yh]
theorem RI {p k b:Int}(h:inR p 0 31=true):spOk p k b=bmOk (slN k) b:=by unfold spOk;rw[h];rfl
theorem li {p k b:Int}(h:spOk p k b=true):0<=p/\p<=31/\inR k 0 3=true/\bmOk (slN k) b=true:=by
 unfold spOk at h;simp only[Zc,be]at h;refine⟨h.1.1,h.1.2,?_,h.2⟩;cases q:inR k 0 3
 ·rw[Hg q]at h;exact absurd h.2 (by decide)
 ·rfl
theorem adO {k b:Int}(h:bmOk (slN k) b=true):0<=b/\b<=65535:=by
 unfold bmOk at h;simp only[Zc,be]at h;have hn:(slN k).toNat<=16:=by omega
 have hp:(2:Int)^(slN k).toNat<=2^16:=by
  have:=Nat.pow_le_pow_right (show 0<2 by omega) hn
  exact_mod_cast this
 omega
def pfN (s:Int):Int:=if inR s 9 1000=true then(s+15)/16 else 0
theorem Q6 {s:Int}(h:inR s 9 1000=true):bO .quo Za (bO .sub Za (bO .add Za s 16) 1) 16=pfN s:=by
 have q:=be.1 h;have e1:bO .add Za s 16=s+16:=cG (by omega);have e2:bO .sub Za (s+16) 1=s+16-1:=gg (by omega);unfold pfN;rw[VT h,e1,e2,BH (by omega) (by omega) (by omega),show s+16-1=s+15 from by omega]
theorem acf {s:Int}(h:inR s 9 1000=false):pfN s=0:=by unfold pfN;rw[h];rfl
theorem oP {s:Int}(h:inR s 9 1000=true):1<=pfN s/\pfN s<=63/\s<=pfN s*16:=by
 have q:=be.1 h;unfold pfN;rw[VT h];omega
def lgOk (p n s:Int):Bool:=inR s 9 1000&&(decide (n=pfN s)&&inR p 0 (32-n))
theorem Qz {p n s:Int}(h:inR s 9 1000=false):lgOk p n s=false:=by unfold lgOk;rw[h];rfl
theorem QA {p n s:Int}(h:n≠pfN s):lgOk p n s=false:=by unfold lgOk;rw[VQ h];simp
theorem QB {p n s:Int}(h:inR s 9 1000=true)(h2:n=pfN s):lgOk p n s=inR p 0 (32-n):=by unfold lgOk;rw[h,VP h2];rfl
theorem ma {p n s:Int}(h:lgOk p n s=true):inR s 9 1000=true/\n=pfN s/\0<=p/\p<=32-n:=by
 unfold lgOk at h;simp only[Zc,VR,be]at h;exact⟨be.2 h.1,h.2.1,h.2.2⟩
def Ct (p k b a:Int):Bool:=spOk p k b&&inR a (p*16) (p*16+15)
def saS (p k b a:Int):Int:=if Ct p k b a=true then(a-p*16)/clsSz k else-1
def saO (p k b a:Int):Int:=if Ct p k b a=true then(a-p*16)%clsSz k else-1
theorem Jv {p k b a:Int}(h:Ct p k b a=false):saS p k b a= -1/\saO p k b a= -1:=by unfold saS saO;rw[h];exact⟨rfl,rfl⟩
theorem wL {p k b a:Int}(h:Ct p k b a=true):saS p k b a=(a-p*16)/clsSz k/\saO p k b a=(a-p*16)%clsSz k:=by unfold saS saO;rw[VT h,VT h];exact⟨rfl,rfl⟩
theorem sK {p k b a:Int}:Ct p k b a=true↔spOk p k b=true/\p*16<=a/\a<=p*16+15:=by unfold Ct;rw[Zc,be]
def Kp (p k b s:Int):Bool:=spOk p k b&&inR s 0 (slN k-1)
def aaI (p k b s:Int):Int:=if Kp p k b s=true then p*16+s*clsSz k else-1
def lhB (p n s a:Int):Bool:=lgOk p n s&&inR a (p*16) (p*16+s-1)
def loI (p n s a:Int):Int:=if lhB p n s a=true then a-p*16 else-1
theorem QC {p n s a:Int}(h:lgOk p n s=false):lhB p n s a=false:=by unfold lhB;rw[h];rfl
theorem QE {p n s a:Int}(h:lgOk p n s=true):lhB p n s a=inR a (p*16) (p*16+s-1):=by unfold lhB;rw[h];rfl
theorem abD {p n s a:Int}(h:lhB p n s a=false):loI p n s a= -1:=by unfold loI;rw[h];rfl
theorem QF {p n s a:Int}(h:lhB p n s a=true):loI p n s a=a-p*16:=by unfold loI;rw[VT h]
theorem DC {a b:Int}(h: -9223372036854775808<=a*b/\a*b<=9223372036854775807):bO .mul Za a b=a*b:=YZ _ h
theorem acg {p:Int}(h:0<=p/\p<=31):bO .mul Za p 16=p*16/\bO .sub Za (bO .add Za (p*16) 16) 1=p*16+15:=by
 have e1:bO .mul Za p 16=p*16:=DC (by omega);have e2:bO .add Za (p*16) 16=p*16+16:=cG (by omega);have e3:bO .sub Za (p*16+16) 1=p*16+16-1:=gg (by omega);rw[e1,e2,e3];omega
theorem Mc {p k b a:Int}(h:spOk p k b=true)(h1:inR a (p*16) (p*16+15)=true):saS p k b a=bO .quo Za (bO .sub Za a (p*16)) (clsSz k)/\saO p k b a=bO .rem Za (bO .sub Za a (p*16)) (clsSz k):=by
 have t:=li h;have q:=be.1 h1;have c:=mz t.2.2.1;have y:=wL (sK.2 ⟨h,q⟩);have e:bO .sub Za a (p*16)=a-p*16:=gg (by omega);rw[y.1,y.2,e,BH (by omega) (by omega) (by omega),BK (by omega)];exact⟨rfl,rfl⟩
theorem acG {p k b a:Int}(h:spOk p k b=false):Ct p k b a=false:=by unfold Ct;rw[h];rfl
theorem acH {p k b a:Int}(h:inR a (p*16) (p*16+15)=false):Ct p k b a=false:=by unfold Ct;rw[h,Yh]
theorem OR {p k b s:Int}(h:spOk p k b=true)(h1:inR s 0 (slN k-1)=true):bO .add Za (bO .mul Za p 16) (bO .mul Za s (clsSz k))=aaI p k b s:=by
 have t:=li h;have c:=mz t.2.2.1;have q:=be.1 h1;have m1:0<=s*clsSz k:=Int.mul_nonneg q.1 (by omega);have m2:s*clsSz k<=(slN k-1)*clsSz k:=Int.mul_le_mul_of_nonneg_right q.2 (by omega);have m3:(slN k-1)*clsSz k=16-clsSz k:=by rw[Int.sub_mul,c.2.2.2.2,Int.one_mul]
 have e:bO .mul Za s (clsSz k)=s*clsSz k:=DC (by omega);rw[(acg ⟨t.1,t.2.1⟩).1,e];unfold aaI Kp;rw[h,h1];exact cG (by omega)
theorem MI {p k b s:Int}(h:spOk p k b=false\/inR s 0 (slN k-1)=false):aaI p k b s= -1:=by
 unfold aaI Kp;rcases h with h|h
 ·rw[h];rfl
 ·rw[h,Yh];rfl
theorem Nw {p n s:Int}(h:lgOk p n s=true):bO .mul Za p 16=p*16/\bO .add Za (bO .mul Za p 16) s=p*16+s/\bO .sub Za (bO .add Za (bO .mul Za p 16) s) 1=p*16+s-1:=by
 have t:=ma h;have b:=oP t.1;have q:=be.1 t.1;have e1:bO .mul Za p 16=p*16:=DC (by omega);have e2:bO .add Za (p*16) s=p*16+s:=cG (by omega);have e3:bO .sub Za (p*16+s) 1=p*16+s-1:=gg (by omega);rw[e1,e2,e3];exact⟨rfl,rfl,rfl⟩
theorem QD {p n s a:Int}:lhB p n s a=true↔lgOk p n s=true/\p*16<=a/\a<=p*16+s-1:=by unfold lhB;rw[Zc,be]
theorem abC {p n s a:Int}(h:lhB p n s a=true):bO .sub Za a (bO .mul Za p 16)=loI p n s a:=by
 obtain⟨h1,h2,h3⟩:=QD.1 h;have t:=ma h1;have b:=oP t.1;have q:=be.1 t.1;rw[(Nw h1).1,QF h];exact gg (by omega)
end Go.V
namespace Go.V
def j8 (l:List Int):af:=l.map fun x=>[.i x]
theorem jp {l:List Int}:(j8 l).length=l.length:=by unfold j8;rw[List.length_map]
theorem zT {a b:List Int}:j8 (a++b)=j8 a++j8 b:=by unfold j8;rw[List.map_append]
theorem Jt {l:List Int}{k:Nat}(h:k<l.length):ag (j8 l) k 0=l[k]:=by
 have e:(j8 l).getD k []=[.i l[k]]:=by
  unfold j8;rw[Zm,List.getElem?_map,Zu h];rfl
 unfold ag;rw[ZG,e];rfl
theorem Ju {l:List Int}(h:∀ x∈l,-9223372036854775808<=x/\x<=9223372036854775807)(hl:l.length<=70368744177664):Rw [tI] (j8 l):=by
 refine⟨by rw[jp];unfold maxLen;omega,fun e he=>?_⟩;obtain⟨x,hx,rfl⟩:=List.mem_map.1 he;have q:=h x hx;exact⟨⟨rfl,by show-9223372036854775808<=x/\x<=(9223372036854775807:Int);exact q⟩,trivial⟩
def Oe (sp:af)(i:Int):Bool:=spOk (ag sp i 0) (ag sp i 1) (ag sp i 2)
def Qy (lg:af)(i:Int):Bool:=lgOk (ag lg i 0) (ag lg i 1) (ag lg i 2)
def mP (sp:af):Nat->List Int
 |0=>[]
 |n+1=>mP sp n++[ag sp n 0]
def tN (p:Int):Nat->List Int
 |0=>[]
 |n+1=>tN p n++[p+n]
def nS (lg:af):Nat->List Int
 |0=>[]
 |n+1=>nS lg n++tN (ag lg n 0) (ag lg n 1).toNat
def BF (sp lg:af):List Int:=mP sp sp.length++nS lg lg.length
def layOk (sp lg:af):Bool:=(cT (Oe sp) sp.length&&cT (Qy lg) lg.length)&&decide (BF sp lg).Nodup
theorem zY {sp:af}{i:Int}(h:0<=i):mP sp (i+1).toNat=mP sp i.toNat++[ag sp i 0]:=by
 rw[show(i+1).toNat=i.toNat+1 from by omega,mP,Zr h]
theorem Dv {lg:af}{i:Int}(h:0<=i):nS lg (i+1).toNat=nS lg i.toNat++tN (ag lg i 0) (ag lg i 1).toNat:=by
 rw[show(i+1).toNat=i.toNat+1 from by omega,nS,Zr h]
theorem DW {p i:Int}(h:0<=i):tN p (i+1).toNat=tN p i.toNat++[p+i]:=by
 rw[show(i+1).toNat=i.toNat+1 from by omega,tN,Zr h]
theorem FN {sp:af}:∀ (m n:Nat),n<=m->∃ r,mP sp m=mP sp n++r
 |0,n,h=>⟨[],by rw[show n=0 by omega];rfl⟩
 | m+1,n,h=>by
   by_cases c:n=m+1
   ·subst c;exact⟨[],by simp⟩
   ·obtain⟨r,e⟩:=FN (sp:=sp) m n (by omega);exact⟨r++[ag sp m 0],by rw[mP,e,Zp]⟩
theorem Fz {p:Int}:∀ (m n:Nat),n<=m->∃ r,tN p m=tN p n++r
 |0,n,h=>⟨[],by rw[show n=0 by omega];rfl⟩
 | m+1,n,h=>by
   by_cases c:n=m+1
   ·subst c;exact⟨[],by simp⟩
   ·obtain⟨r,e⟩:=Fz (p:=p) m n (by omega);exact⟨r++[p+m],by rw[tN,e,Zp]⟩
theorem Fb {lg:af}:∀ (m n:Nat),n<=m->∃ r,nS lg m=nS lg n++r
 |0,n,h=>⟨[],by rw[show n=0 by omega];rfl⟩
 | m+1,n,h=>by
   by_cases c:n=m+1
   ·subst c;exact⟨[],by simp⟩
   ·obtain⟨r,e⟩:=Fb (lg:=lg) m n (by omega);exact⟨r++tN (ag lg m 0) (ag lg m 1).toNat,by rw[nS,e,Zp]⟩
theorem dup {a b l:List Int}{x:Int}(h:l=a++x::b)(hm:x∈a):¬ l.Nodup:=by
 rw[h,Zx];rintro⟨_,_,q⟩;exact q x hm x (by simp) rfl
theorem q7 {a:List Int}{x:Int}(h:a.Nodup)(hx:x∉a):(a++[x]).Nodup:=by
 rw[Zx];exact⟨h,by simp,fun y hy z hz e=>by simp at hz;subst hz;subst e;exact hx hy⟩
theorem Lp {sp lg:af}{i:Int}(h0:0<=i)(h1:i<sp.length)(h:spOk (ag sp i 0) (ag sp i 1) (ag sp i 2)=false):layOk sp lg=false:=by
 unfold layOk;rw[cN h0 h1 h];rfl
theorem Lq {sp lg:af}{i:Int}(h0:0<=i)(h1:i<lg.length)(h:lgOk (ag lg i 0) (ag lg i 1) (ag lg i 2)=false):layOk sp lg=false:=by
 unfold layOk;rw[cN (p:=Qy lg) h0 h1 h,Yh];rfl
theorem Lr {sp lg:af}{i:Int}(h0:0<=i)(h1:i<sp.length)(h:ag sp i 0∈mP sp i.toNat):layOk sp lg=false:=by
 obtain⟨r,e⟩:=FN (sp:=sp) sp.length (i+1).toNat (by omega);rw[zY h0,Zp]at e;have:¬ (BF sp lg).Nodup:=dup (a:=mP sp i.toNat) (b:=r++nS lg lg.length) (x:=ag sp i 0) (by unfold BF;rw[e,Zp];rfl) h;unfold layOk;rw[VQ this,Yh]
theorem Ls {sp lg:af}{i k:Int}(h0:0<=i)(h1:i<lg.length)(k0:0<=k)(k1:k<ag lg i 1)(h:ag lg i 0+k∈mP sp sp.length++nS lg i.toNat++tN (ag lg i 0) k.toNat):layOk sp lg=false:=by
 obtain⟨r,e⟩:=Fb (lg:=lg) lg.length (i+1).toNat (by omega);obtain⟨r2,e2⟩:=Fz (p:=ag lg i 0) (ag lg i 1).toNat (k+1).toNat (by omega);rw[Dv h0,e2,DW k0]at e;have:¬ (BF sp lg).Nodup:=dup (a:=mP sp sp.length++nS lg i.toNat++tN (ag lg i 0) k.toNat) (b:=r2++r) (x:=ag lg i 0+k) (by unfold BF;rw[e];simp only[Zp];rfl) h;unfold layOk;rw[VQ this,Yh]
theorem Lt {sp lg:af}{i j:Int}(h:upto (Oe sp) i)(hi:(sp.length:Int)<=i)(h2:upto (Qy lg) j)(hj:(lg.length:Int)<=j)(hn:(BF sp lg).Nodup):layOk sp lg=true:=by
 unfold layOk;rw[cu h hi,cu h2 hj,VP hn];rfl
theorem IA {sp lg:af}(h:layOk sp lg=true):(∀ i:Int,0<=i->i<sp.length->spOk (ag sp i 0) (ag sp i 1) (ag sp i 2)=true)/\(∀ i:Int,0<=i->i<lg.length->lgOk (ag lg i 0) (ag lg i 1) (ag lg i 2)=true)/\(BF sp lg).Nodup:=by
 unfold layOk at h;simp only[Zc,VR]at h;exact⟨dh.1 h.1.1,dh.1 h.1.2,h.2⟩
def SB (es:af):Prop:=∀ e∈es,∃ (k:Int) (b:Bool),e=[.i k,.v (.bool b)]
theorem wd {k:Int}{b:Bool}{es:af}{n:Int}:dT ([.i k,.v (.bool b)]::es) n=if k=n then some (0,.bool b)else(dT es n).map fun p=>(p.1+1,p.2):=rfl
theorem oH {k:Int}{b:Bool}{es:af}{n:Int}:mgbI ([.i k,.v (.bool b)]::es) n=if k=n then b else mgbI es n:=by
 unfold mgbI;rw[wd];by_cases c:k=n
 ·rw[VT c,VT c]
 ·rw[VU c,VU c];cases dT es n with
  |none=>rfl
  |some p=>obtain⟨j,v⟩:=p;cases v<;>rfl
theorem Fo {k:Int}{b x:Bool}{es:af}{n:Int}:mO ([.i k,.v (.bool b)]::es) n (.v (.bool x))=if k=n then[.i n,.v (.bool x)]::es else[.i k,.v (.bool b)]::mO es n (.v (.bool x)):=by
 unfold mO;rw[wd];by_cases c:k=n
 ·rw[VT c,VT c];rfl
 ·rw[VU c,VU c];cases dT es n with
  |none=>rfl
  |some p=>rfl
theorem mub {x:Bool}{n:Int}:∀ {es:af},SB es->SB (mO es n (.v (.bool x)))/\∀ m,mgbI (mO es n (.v (.bool x))) m=if m=n then x else mgbI es m
 | [],_=>by
   refine⟨fun e he=>?_,fun m=>?_⟩
   ·have:e=[.i n,.v (.bool x)]:=by simpa[mO,dT]using he
    exact⟨n,x,this⟩
   ·show mgbI [[.i n,.v (.bool x)]] m=_;rw[oH];by_cases c:m=n
    ·rw[VT c.symm,VT c]
    ·rw[VU (fun e=>c e.symm),VU c]
 | e::es,h=>by
   obtain⟨k,b,rfl⟩:=h e (by simp);have h':SB es:=fun e he=>h e (by simp[he])
   obtain⟨a1,a2⟩:=mub (x:=x) (n:=n) h';rw[Fo];by_cases c:k=n
   ·rw[VT c];refine⟨fun e he=>?_,fun m=>?_⟩
    ·rcases Zl.1 he with rfl|he;exact⟨n,x,rfl⟩;exact h' e he
    ·rw[oH,oH];by_cases d:m=n
     ·rw[VT d.symm,VT d]
     ·rw[VU (fun e=>d e.symm),VU d,VU (fun e=>d (by rw[<-e,c]))]
   ·rw[VU c];refine⟨fun e he=>?_,fun m=>?_⟩
    ·rcases Zl.1 he with rfl|he;exact⟨k,b,rfl⟩;exact a1 e he
    ·rw[oH,oH,a2 m];by_cases d:k=m
     ·rw[VT d,VT d,VU (fun e=>c (d.trans e))]
     ·rw[VU d,VU d]
def muT (es:af)(n:Int):af:=mO es n (.v (.bool true))
structure pA (es:af)(l:List Int):Prop where
 wf:SB es
 at_:∀ m,mgbI es m=true↔m∈l
theorem D9:pA [] []:=⟨(fun e he=>by cases he),fun m=>by simp[mgbI,dT]⟩
theorem uR {es:af}{l:List Int}{n:Int}(h:pA es l):pA (mO es n (.v (.bool true))) (l++[n]):=by
 have q:=mub (x:=true) (n:=n) h.wf;refine⟨q.1,fun m=>?_⟩;rw[q.2 m];by_cases c:m=n
 ·rw[VT c];simp[c]
 ·rw[VU c,h.at_ m];simp[c]
def one (x:Int):af:=[[.i x]]
structure LsP (sp:af)(i:Int)(o:af):Prop where
 e:o=j8 (mP sp i.toNat)
 nd:(mP sp i.toNat).Nodup
 ok:upto (Oe sp) i
 b:∀ x∈mP sp i.toNat,0<=x/\x<=64
structure LlP (sp lg:af)(j:Int)(o:af):Prop where
 e:o=j8 (mP sp sp.length++nS lg j.toNat)
 nd:(mP sp sp.length++nS lg j.toNat).Nodup
 oks:upto (Oe sp) sp.length
 ok:upto (Qy lg) j
 b:∀ x∈mP sp sp.length++nS lg j.toNat,0<=x/\x<=64
 l:(nS lg j.toNat).length<=64*j.toNat
structure LkP (sp lg:af)(j k:Int)(o:af):Prop where
 e:o=j8 (mP sp sp.length++nS lg j.toNat++tN (ag lg j 0) k.toNat)
 nd:(mP sp sp.length++nS lg j.toNat++tN (ag lg j 0) k.toNat).Nodup
 oks:upto (Oe sp) sp.length
 ok:upto (Qy lg) j
 b:∀ x∈mP sp sp.length++nS lg j.toNat++tN (ag lg j 0) k.toNat,0<=x/\x<=64
 l:(nS lg j.toNat).length<=64*j.toNat
theorem afl {p n s k:Int}(h:lgOk p n s=true)(k0:0<=k)(k1:k<n):0<=p/\p+k<=32/\bO .add Za p k=p+k/\1<=n/\n<=32:=by
 have t:=ma h;have b:=oP t.1;have e:bO .add Za p k=p+k:=cG (by omega);exact⟨by omega,by omega,e,by omega,by omega⟩
end Go.V
namespace Go.V
structure OE (sp:af)(i:Int)(es:af):Prop where
 s:pA es (mP sp i.toNat)
 nd:(mP sp i.toNat).Nodup
 ok:upto (Oe sp) i
structure Sv (sp lg:af)(j:Int)(es:af):Prop where
 s:pA es (mP sp sp.length++nS lg j.toNat)
 nd:(mP sp sp.length++nS lg j.toNat).Nodup
 oks:upto (Oe sp) sp.length
 ok:upto (Qy lg) j
structure OC (sp lg:af)(j k:Int)(es:af):Prop where
 s:pA es (mP sp sp.length++nS lg j.toNat++tN (ag lg j 0) k.toNat)
 nd:(mP sp sp.length++nS lg j.toNat++tN (ag lg j 0) k.toNat).Nodup
 oks:upto (Oe sp) sp.length
 ok:upto (Qy lg) j
theorem Jz {es:af}{l:List Int}{n:Int}(h:pA es l)(e:mgbI es n=false):n∉l:=fun m=>by rw[(h.at_ n).2 m]at e;cases e
theorem ae4 {sp:af}:OE sp 0 []:=⟨D9,List.nodup_nil,cg⟩
theorem Qp {sp lg es:af}{i:Int}(h:OE sp i es)(h0:0<=i)(h1:i<sp.length)(hh:mgbI es (ag sp i 0)=true):layOk sp lg=false:=
 Lr h0 h1 ((h.s.at_ _).1 hh)
theorem abk {sp es:af}{i:Int}(h:OE sp i es)(h0:0<=i)(hs:spOk (ag sp i 0) (ag sp i 1) (ag sp i 2)=true)(hh:mgbI es (ag sp i 0)=false):OE sp (i+1) (muT es (ag sp i 0)):=
 ⟨by rw[zY h0];exact uR h.s,by rw[zY h0];exact q7 h.nd (Jz h.s hh),bN h.ok hs⟩
theorem Qq {sp lg es:af}{i:Int}(h:OE sp i es)(h1:i<=sp.length)(h2:(sp.length:Int)<=i):Sv sp lg 0 es:=by
 have e:i.toNat=sp.length:=by omega
 have ei:i=sp.length:=by omega
 have q1:=h.s;have q2:=h.nd;have q3:=h.ok;rw[e]at q1 q2;rw[ei]at q3;exact⟨by simpa[nS]using q1,by simpa[nS]using q2,q3,cg⟩
theorem ae3 {sp lg es:af}{j:Int}(h:Sv sp lg j es):OC sp lg j 0 es:=
 ⟨by simpa[tN]using h.s,by simpa[tN]using h.nd,h.oks,h.ok⟩
theorem Qj {sp lg es:af}{j k:Int}(h:OC sp lg j k es)(h0:0<=j)(h1:j<lg.length)(k0:0<=k)(k1:k<ag lg j 1)(hh:mgbI es (ag lg j 0+k)=true):layOk sp lg=false:=
 Ls h0 h1 k0 k1 ((h.s.at_ _).1 hh)
theorem abg {sp lg es:af}{j k:Int}(h:OC sp lg j k es)(k0:0<=k)(hh:mgbI es (ag lg j 0+k)=false):OC sp lg j (k+1) (muT es (ag lg j 0+k)):=by
 have q:∀ A:List Int,A++tN (ag lg j 0) (k+1).toNat=A++tN (ag lg j 0) k.toNat++[ag lg j 0+k]:=fun A=>by rw[DW k0,Zp]
 exact⟨by rw[q];exact uR h.s,by rw[q];exact q7 h.nd (Jz h.s hh),h.oks,h.ok⟩
theorem Qk {sp lg es:af}{j k:Int}(h:OC sp lg j k es)(j0:0<=j)(hl:lgOk (ag lg j 0) (ag lg j 1) (ag lg j 2)=true)(k1:k<=ag lg j 1)(k2:ag lg j 1<=k):Sv sp lg (j+1) es:=by
 have ek:k.toNat=(ag lg j 1).toNat:=by omega
 have q1:=h.s;have q2:=h.nd;rw[ek,Zp, <-Dv j0]at q1 q2;exact⟨q1,q2,h.oks,bN h.ok hl⟩
theorem Ql {sp lg es:af}{j:Int}(h:Sv sp lg j es)(j1:j<=lg.length)(j2:(lg.length:Int)<=j):layOk sp lg=true:=by
 have e:j.toNat=lg.length:=by omega
 have q:=h.nd;rw[e]at q;exact Lt h.oks (Yg _) h.ok j2 q
theorem abM {b:Bool}(h:(!b)=false):b=true:=by cases b<;>simp_all
theorem abN {b:Bool}(h:(!b)=true):b=false:=by cases b<;>simp_all
end Go.V
namespace Go.V
def yD (sp:af)(a i:Int):Bool:=decide (0<=saS (ag sp i 0) (ag sp i 1) (ag sp i 2) a)
def yq (lg:af)(a i:Int):Bool:=lhB (ag lg i 0) (ag lg i 1) (ag lg i 2) a
def gn (sp:af)(a:Int):Int:=cQ (yD sp a) sp.length
def k9 (lg:af)(a:Int):Int:=cQ (yq lg a) lg.length
def xv (sp:af)(a i:Int):Int:=saS (ag sp i 0) (ag sp i 1) (ag sp i 2) a
def Mi (sp:af)(a i:Int):Int:=saO (ag sp i 0) (ag sp i 1) (ag sp i 2) a
def SF (lg:af)(a i:Int):Int:=loI (ag lg i 0) (ag lg i 1) (ag lg i 2) a
def dnK (sp lg:af)(a:Int):Int:=if 0<=gn sp a then(if hsB (ag sp (gn sp a) 2) (xv sp a (gn sp a))then 1 else 2)else if 0<=k9 lg a then 3 else 0
def dnI (sp lg:af)(a:Int):Int:=if 0<=gn sp a then gn sp a else if 0<=k9 lg a then k9 lg a else 0
def dnS (sp:af)(a:Int):Int:=if 0<=gn sp a then xv sp a (gn sp a)else 0
def dnO (sp lg:af)(a:Int):Int:=if 0<=gn sp a then Mi sp a (gn sp a)else if 0<=k9 lg a then SF lg a (k9 lg a)else 0
def dzK (sp lg:af)(a:Int):Int:=if layOk sp lg then dnK sp lg a else 0
def dzI (sp lg:af)(a:Int):Int:=if layOk sp lg then dnI sp lg a else 0
def dzS (sp lg:af)(a:Int):Int:=if layOk sp lg then dnS sp a else 0
def dzO (sp lg:af)(a:Int):Int:=if layOk sp lg then dnO sp lg a else 0
theorem afT {sp:af}{a i:Int}(h:upto (cR (yD sp a)) i)(hs:saS (ag sp i 0) (ag sp i 1) (ag sp i 2) a<0):upto (cR (yD sp a)) (i+1):=
 bN h (by unfold cR yD;rw[VQ (by omega)];rfl)
theorem afi {lg:af}{a i:Int}(h:upto (cR (yq lg a)) i)(hs:lhB (ag lg i 0) (ag lg i 1) (ag lg i 2) a=false):upto (cR (yq lg a)) (i+1):=
 bN h (by unfold cR yq;rw[hs];rfl)
theorem Nb {sp:af}{a i:Int}(h:upto (cR (yD sp a)) i)(h0:0<=i)(h1:i<sp.length)(hs:0<=saS (ag sp i 0) (ag sp i 1) (ag sp i 2) a):gn sp a=i:=
 dI h h0 h1 (VP hs)
theorem Nc {sp:af}{a i:Int}(h:upto (cR (yD sp a)) i)(h1:(sp.length:Int)<=i):gn sp a= -1:=eN h h1
theorem aan {lg:af}{a i:Int}(h:upto (cR (yq lg a)) i)(h0:0<=i)(h1:i<lg.length)(hs:lhB (ag lg i 0) (ag lg i 1) (ag lg i 2) a=true):k9 lg a=i:=
 dI h h0 h1 hs
theorem aap {lg:af}{a i:Int}(h:upto (cR (yq lg a)) i)(h1:(lg.length:Int)<=i):k9 lg a= -1:=eN h h1
def owL (k i s o:Int):List DV:=[DV.agg [.i k,.i i,.i s,.i o]]
def M1 (sp lg:af)(a:Int):List DV:=owL (dnK sp lg a) (dnI sp lg a) (dnS sp a) (dnO sp lg a)
theorem ow1 {sp lg:af}{a i:Int}(h:upto (cR (yD sp a)) i)(h0:0<=i)(h1:i<sp.length)(hs:0<=saS (ag sp i 0) (ag sp i 1) (ag sp i 2) a)(hh:hsB (ag sp i 2) (saS (ag sp i 0) (ag sp i 1) (ag sp i 2) a)=true):
 owL 1 i (saS (ag sp i 0) (ag sp i 1) (ag sp i 2) a) (saO (ag sp i 0) (ag sp i 1) (ag sp i 2) a)=M1 sp lg a:=by
 have e:=Nb h h0 h1 hs;unfold M1 dnK dnI dnS dnO xv Mi;rw[e,VT h0,VT h0,VT h0,VT h0,hh];rfl
theorem ow2 {sp lg:af}{a i:Int}(h:upto (cR (yD sp a)) i)(h0:0<=i)(h1:i<sp.length)(hs:0<=saS (ag sp i 0) (ag sp i 1) (ag sp i 2) a)(hh:hsB (ag sp i 2) (saS (ag sp i 0) (ag sp i 1) (ag sp i 2) a)=false):
 owL 2 i (saS (ag sp i 0) (ag sp i 1) (ag sp i 2) a) (saO (ag sp i 0) (ag sp i 1) (ag sp i 2) a)=M1 sp lg a:=by
 have e:=Nb h h0 h1 hs;unfold M1 dnK dnI dnS dnO xv Mi;rw[e,VT h0,VT h0,VT h0,VT h0,hh];rfl
theorem ow3 {sp lg:af}{a i j:Int}(h:upto (cR (yD sp a)) i)(h1:(sp.length:Int)<=i)(g:upto (cR (yq lg a)) j)(j0:0<=j)(j1:j<lg.length)(hh:lhB (ag lg j 0) (ag lg j 1) (ag lg j 2) a=true):
 owL 3 j 0 (loI (ag lg j 0) (ag lg j 1) (ag lg j 2) a)=M1 sp lg a:=by
 have e:=Nc h h1;have f:=aan g j0 j1 hh;have n:¬ (0:Int)<= -1:=by omega
 unfold M1 dnK dnI dnS dnO SF;rw[e,f,VU n,VU n,VU n,VU n,VT j0,VT j0,VT j0]
theorem ow4 {sp lg:af}{a i j:Int}(h:upto (cR (yD sp a)) i)(h1:(sp.length:Int)<=i)(g:upto (cR (yq lg a)) j)(j1:(lg.length:Int)<=j):
 owL 0 0 0 0=M1 sp lg a:=by
 have e:=Nc h h1;have f:=aap g j1;have n:¬ (0:Int)<= -1:=by omega
 unfold M1 dnK dnI dnS dnO;rw[e,f,VU n,VU n,VU n,VU n,VU n,VU n,VU n]
end Go.V
namespace Go.V
def Fc (sp lg:af)(a:Int):Bool:=decide (dzO sp lg a=0)&&(decide (dzK sp lg a=1)||decide (dzK sp lg a=3))
def Qv (sp lg:af):Nat->af
 |0=>[]
 |n+1=>Qv sp lg n++(if Fc sp lg n then[[.i n]]else[])
def xt (sp lg:af):af:=if layOk sp lg then Qv sp lg 512 else[]
structure LaP (sp lg:af)(i:Int)(o:af):Prop where
 e:o=Qv sp lg i.toNat
 l:o.length<=i.toNat
 y:0<i->layOk sp lg=true
theorem zS {a b:af}(h:a=b):[DV.one (.s 1 a)]=[DV.one (.s 1 b)]:=by rw[h]
end Go.V