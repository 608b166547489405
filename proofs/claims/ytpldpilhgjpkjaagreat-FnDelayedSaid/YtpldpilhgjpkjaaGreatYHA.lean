/- Plain facts. -/
import Derived.Test.YtpldpilhgjpkjaaGreatYVE
set_option linter.all false
open Go
open BitVec renaming ofInt->ZU
open Bool renaming and_eq_true->Zc,and_false->Yf
open Int renaming toNat_of_nonneg->Zr,tmod_eq_emod_of_nonneg->WI,toNat_natCast->ZJ,le_trans->X9,le_refl->Yn
open IntKind renaming has->XI,wrap->YY,bits->WL,signed->WM,i64->Za
open IntWalk renaming i64_in->YZ
open List renaming range->Zm,mem_range->Ye,length_append->Zf,mem_cons->Zk,getD_eq_getElem?_getD->Zn,getElem?_eq_getElem->Zu,take->Z7,drop->Ym,find?_range_eq_some->XJ,find?_range_eq_none->WJ,replicate->Zq,length_replicate->Xv,append_assoc->Zs,nodup_append->Zy
open Nat renaming le_refl->Ze,le_trans->ZI
open Value renaming int->Zi
namespace Go.V
theorem adJ {n:Int}(h:XI Za n): -9223372036854775808<=n/\n<=9223372036854775807:=h
theorem dq {i:Int}(h0:0<=i)(h1:i<9223372036854775807):bO .add Za i 1=i+1:=cE (by omega)
def inR (x a b:Int):Bool:=decide (a<=x)&&decide (x<=b)
theorem bi {x a b:Int}:inR x a b=true↔a<=x/\x<=b:=by simp[inR]
theorem xQ {x a b:Int}:inR x a b=false↔x<a\/b<x:=by
 cases h:inR x a b
 ·simp only[true_iff];unfold inR at h;simp only[Bool.and_eq_false_iff,decide_eq_false_iff_not]at h;omega
 ·rw[bi]at h;constructor
  ·intro q;cases q
  ·omega
def dt (p:Int->Bool)(n:Nat):Bool:=(Zm n).all fun j=>p (j:Int)
def upto (p:Int->Bool)(i:Int):Prop:=∀ j:Int,0<=j->j<i->p j=true
theorem bV {p:Int->Bool}:upto p 0:=fun j h0 h1=>absurd h1 (by omega)
theorem bN {p:Int->Bool}{i:Int}(h:upto p i)(hp:p i=true):upto p (i+1):=fun j h0 h1=>by
 by_cases q:j=i
 ·subst q;exact hp
 ·exact h j h0 (by omega)
theorem ed {p:Int->Bool}{n:Nat}:dt p n=true↔upto p n:=by
 simp only[dt,List.all_eq_true,Ye];exact⟨fun h j h0 h1=>by have:=h j.toNat (by omega);rwa [Zr h0]at this,fun h x hx=>h x (by omega) (by omega)⟩
theorem cu {p:Int->Bool}{n:Nat}{i:Int}(h:upto p i)(hi:(n:Int)<=i):dt p n=true:=ed.2 fun j h0 h1=>h j h0 (by omega)
theorem cN {p:Int->Bool}{n:Nat}{i:Int}(h0:0<=i)(h:i<n)(hp:p i=false):dt p n=false:=by
 cases q:dt p n
 ·rfl
 ·rw[ed.1 q i h0 h]at hp;cases hp
theorem m8 {a b:Bool}(h:a=true↔b=true):a=b:=by cases a<;>cases b<;>simp_all
theorem au {a b:Bool}(h:a=b):[DV.k a]=[DV.k b]:=by rw[h]
def nU (cs us:af)(i k:Int):Bool:=inR (ag (aO cs i 0) k 0) 0 999&&(pF us i 0||decide (ag (aO cs i 0) k 0=0))
def ja (cs us:af)(i:Int):Bool:=decide ((aO cs i 0).length=16)&&dt (nU cs us i) 16
def framesOk (cs us:af):Bool:=inR cs.length 1 32&&decide (us.length=cs.length)&&dt (ja cs us) cs.length
def qj (es:af)(fr i:Int):Bool:=inR (ag es i 0) 0 2&&decide (ag es i 0=0->ag es i 1=0)&&decide (0<ag es i 0->0<=ag es i 1/\ag es i 1<fr)
def tableOk (es:af)(fr:Int):Bool:=dt (qj es fr) es.length&&inR es.length 1 32
def vS (es:af)(f:Int):Nat->af
 |0=>[]
 |n+1=>if ag es n 0≠0/\ag es n 1=f then vS es f n++[[.i n]]else vS es f n
def pagesOn (es:af)(f:Int):af:=vS es f es.length
theorem y8 {es:af}{f:Int}:∀ {n:Nat},(vS es f n).length<=n
 |0=>Nat.zero_le _
 | n+1=>by
   have:=y8 (es:=es) (f:=f) (n:=n);unfold vS;split
   ·rw[Zf];simp;omega
   ·omega
theorem KZ {es:af}{f:Int}{n:Nat}(h0:ag es n 0≠0)(h1:ag es n 1=f):vS es f (n+1)=vS es f n++[[.i n]]:=by rw[vS,VL ⟨h0,h1⟩]
theorem Ij {es:af}{f:Int}{n:Nat}(h:ag es n 0=0\/ag es n 1≠f):vS es f (n+1)=vS es f n:=by rw[vS,VM (by rintro⟨a,b⟩;rcases h with q|q;exact a q;exact q b)]
theorem KY {es:af}{f i:Int}(hi:0<=i)(h0:ag es i 0≠0)(h1:ag es i 1=f):vS es f (i+1).toNat=vS es f i.toNat++[[.i i]]:=by
 have e:((i.toNat:Nat):Int)=i:=Zr hi;rw[show(i+1).toNat=i.toNat+1 from by omega,KZ (by rw[e];exact h0) (by rw[e];exact h1),e]
theorem Ii {es:af}{f i:Int}(hi:0<=i)(h:ag es i 0=0\/ag es i 1≠f):vS es f (i+1).toNat=vS es f i.toNat:=by
 have e:((i.toNat:Nat):Int)=i:=Zr hi;rw[show(i+1).toNat=i.toNat+1 from by omega,Ij (by rw[e];exact h)]
theorem x7 {es:af}{f:Int}:(pagesOn es f).length<=es.length:=y8
def eY (es:af)(f:Int):Bool:=decide (0<(pagesOn es f).length)
theorem yU {es:af}{f:Int}:eY es f=true↔0<(pagesOn es f).length:=by simp[eY]
theorem OC {cs us:af}(h:inR cs.length 1 32=false):framesOk cs us=false:=by unfold framesOk;rw[h];rfl
theorem OD {cs us:af}(h:us.length≠cs.length):framesOk cs us=false:=by unfold framesOk;rw[VJ h];simp
theorem OE {cs us:af}{i:Int}(h0:0<=i)(h1:i<cs.length)(h:(aO cs i 0).length≠16):framesOk cs us=false:=by
 unfold framesOk;rw[cN h0 h1 (by unfold ja;rw[VJ h];rfl)];simp
theorem Hc {cs us:af}{i k:Int}(h0:0<=i)(h1:i<cs.length)(k0:0<=k)(k1:k<16)(h:inR (ag (aO cs i 0) k 0) 0 999=false\/pF us i 0=false/\ag (aO cs i 0) k 0≠0):framesOk cs us=false:=by
 unfold framesOk;rw[cN h0 h1 (by unfold ja;rw[cN k0 (by simpa using k1) (by unfold nU;rcases h with q|⟨q,q'⟩;rw[q];rfl;rw[q,VJ q'];simp)];simp)];simp
theorem Cw {cs us:af}{i:Int}(h1:inR cs.length 1 32=true)(h2:us.length=cs.length)(h:upto (ja cs us) i)(hi:(cs.length:Int)<=i):framesOk cs us=true:=by
 unfold framesOk;rw[h1,VI h2,cu h hi];rfl
theorem Hb {cs us:af}{i k:Int}(hl:(aO cs i 0).length=16)(h:upto (nU cs us i) k)(hk:16<=k):ja cs us i=true:=by
 unfold ja;rw[VI hl,cu h (by simpa using hk)];rfl
theorem GI {cs us:af}{i k:Int}(h:inR (ag (aO cs i 0) k 0) 0 999=true)(h':pF us i 0=true\/ag (aO cs i 0) k 0=0):nU cs us i k=true:=by
 unfold nU;rw[h];rcases h' with q|q
 ·rw[q];rfl
 ·rw[VI q];simp
theorem Do {k:Nat}{a b:af}(h:a=b):[DV.one (.s k a)]=[DV.one (.s k b)]:=by rw[h]
theorem abI {es:af}{n i:Int}(h0:0<=i)(h1:i<es.length)(h:¬ (0<=ag es i 0/\ag es i 0<=2/\(ag es i 0=0->ag es i 1=0)/\(0<ag es i 0->0<=ag es i 1/\ag es i 1<n))):tableOk es n=false:=by
 unfold tableOk;rw[cN h0 h1];rfl;cases q:qj es n i;rfl
 ·refine absurd ?_ h;unfold qj at q;simp only[Zc,VK,bi]at q;exact⟨q.1.1.1,q.1.1.2,q.1.2,q.2⟩
theorem IW {es:af}{n i:Int}(h:0<=ag es i 0/\ag es i 0<=2/\(ag es i 0=0->ag es i 1=0)/\(0<ag es i 0->0<=ag es i 1/\ag es i 1<n)):qj es n i=true:=by
 unfold qj;simp only[Zc,VK,bi];exact⟨⟨⟨h.1,h.2.1⟩,h.2.2.1⟩,h.2.2.2⟩
theorem Dv {es:af}{n i:Int}(h:upto (qj es n) i)(hi:(es.length:Int)<=i):tableOk es n=inR es.length 1 32:=by unfold tableOk;rw[cu h hi];rfl
theorem Du {es:af}{n:Int}(h:tableOk es n=true):1<=es.length/\es.length<=32:=by
 unfold tableOk at h;simp only[Zc,bi]at h;omega
theorem abH {es:af}{n i:Int}(h:tableOk es n=true)(h0:0<=i)(h1:i<es.length):0<=ag es i 0/\ag es i 0<=2/\(ag es i 0=0->ag es i 1=0)/\(0<ag es i 0->0<=ag es i 1/\ag es i 1<n):=by
 unfold tableOk at h;simp only[Zc]at h;have q:=ed.1 h.1 i h0 h1;unfold qj at q;simp only[Zc,VK,bi]at q;exact⟨q.1.1.1,q.1.1.2,q.1.2,q.2⟩
theorem rQ {cs us:af}(h:framesOk cs us=true):us.length=cs.length/\1<=cs.length/\cs.length<=32:=by
 unfold framesOk at h;simp only[Zc,VK,bi]at h;omega
theorem SN {cs us:af}{i:Int}(h:framesOk cs us=true)(h0:0<=i)(h1:i<cs.length):(aO cs i 0).length=16:=by
 unfold framesOk at h;simp only[Zc,VK,bi]at h;have q:=ed.1 h.2 i h0 h1;unfold ja at q;simp only[Zc,VK]at q;exact q.1
end Go.V
namespace Go.V
theorem Bb {a n:Int}(h0:0<=a)(h1:a<=9223372036854775807)(hn:0<n):bO .quo Za a n=a/n:=by
 show YY Za (a.tdiv n)=_;rw[Int.tdiv_eq_ediv_of_nonneg h0];have h2:0<=a/n:=Int.ediv_nonneg h0 (by omega);have h3:a/n<=a:=Int.ediv_le_self _ h0;exact YZ _ (by omega)
theorem Bf {a n:Int}(h0:0<=a):bO .rem Za a n=a%n:=WI h0
theorem KE {a:af}{f:Int}:cT .gtr (pagesOn a f).length 0=eY a f:=m8 (by rw[yU];simp only[SS];omega)
theorem KJ {a:af}{f:Int}(h:(pagesOn a f).length=0):eY a f=false:=by unfold eY;rw[h];rfl
theorem LS {a b a' b':Int}(h:a=a')(h':b=b'):[DV.agg [.i a,.i b]]=[DV.agg [.i a',.i b']]:=by rw[h,h']
theorem xF {a b a' b':Int}(h:a=a')(h':b=b'):[DV.j a,DV.j b]=[DV.j a',DV.j b']:=by rw[h,h']
theorem cB {a b:Int}(h:a=b):[DV.j a]=[DV.j b]:=by rw[h]
def peM (es:af)(p:Int):Int:=if 0<=p/\p<es.length then ag es p 0 else 0
def peF (es:af)(p:Int):Int:=if 0<=p/\p<es.length then ag es p 1 else 0
theorem Ih {es:af}{p:Int}(h:0<=p/\p<es.length):peM es p=ag es p 0/\peF es p=ag es p 1:=by unfold peM peF;rw[VL h,VL h];exact⟨rfl,rfl⟩
theorem EI {es:af}{p:Int}(h:¬ (0<=p/\p<es.length)):peM es p=0/\peF es p=0:=by unfold peM peF;rw[VM h,VM h];exact⟨rfl,rfl⟩
def leM (es:af)(a:Int):Int:=if a<0 then 0 else peM es (a/16)
def leF (es:af)(a:Int):Int:=if a<0 then 0 else peF es (a/16)
def leK (a:Int):Int:=if a<0 then 0 else a%16
end Go.V
namespace Go.V
theorem kG {fs:List Ty}{es:af}{i:Int}(h:Rw [.sl fs] es)(h0:0<=i)(h1:i<es.length):es.take (i+1).toNat=es.take i.toNat++[[.s fs.length (aO es i 0)]]:=by
 rw[show(i+1).toNat=i.toNat+1 from by omega,ky (d:=[]) (show i.toNat<es.length by omega)];have e:=h.eta h0 h1;rw[e];rfl
theorem qP {fs:List Ty}{es:af}{i:Int}(h:Rw [.sl fs] es)(h0:0<=i)(h1:i<es.length):av (aO es i 0)+es.length<=av es:=by
 have e:=h.eta h0 h1;have h2:=JW (es:=es) (n:=i.toNat) (by omega);have h3:=xg (es:=es) (n:=i.toNat+1);rw[e]at h2;have h4:gx (kM am es i 0 (zR [Ty.sl fs]))=av (aO es i 0):=by
  show gx [.s fs.length (aO es i 0)]=_;simp only[gx,vg,av];omega
 rw[h4]at h2;show _<=es.length+cP es;omega
theorem aS {es:af}:es.length<=av es:=Nat.le_add_right _ _
theorem ji {es:af}{i:Int}(h:(es.length:Int)<=i):es.take i.toNat=es:=List.take_of_length_le (by omega)
def oe (us es:af)(i:Int):Bool:=pF us i 0==eY es i
def machOk (cs us es:af):Bool:=framesOk cs us&&tableOk es cs.length&&dt (oe us es) cs.length
theorem MC {cs us es:af}(h:framesOk cs us=false\/tableOk es cs.length=false):machOk cs us es=false:=by
 unfold machOk;rcases h with h|h<;>rw[h]<;>simp
theorem Px {cs us es:af}(hf:framesOk cs us=true)(h:tableOk es us.length=false):machOk cs us es=false:=by
 rw[(rQ hf).1]at h;exact MC (.inr h)
theorem Py {cs us es:af}{i:Int}(h0:0<=i)(h1:i<cs.length)(h:pF us i 0≠eY es i):machOk cs us es=false:=by
 unfold machOk;rw[cN h0 h1 (by unfold oe;simpa using h)];simp
theorem HP {us es:af}{i:Int}(h:pF us i 0=eY es i):oe us es i=true:=by unfold oe;simpa using h
theorem C0 {cs us es:af}{i:Int}(h:framesOk cs us=true)(h2:tableOk es us.length=true)(hu:upto (oe us es) i)(hi:(us.length:Int)<=i):machOk cs us es=true:=by
 rw[(rQ h).1]at h2 hi;unfold machOk;rw[h,h2,cu hu hi];rfl
theorem MD {cs us es:af}(q:machOk cs us es=true):framesOk cs us=true/\tableOk es cs.length=true/\∀ i:Int,0<=i->i<cs.length->pF us i 0=eY es i:=by
 unfold machOk at q;simp only[Zc]at q;refine⟨q.1.1,q.1.2,fun i h0 h1=>?_⟩;have:=ed.1 q.2 i h0 h1;unfold oe at this;simpa using this
theorem eV:∀ {rs:List af} {r:af} {n:Nat},xz rs<=n->r∈rs->av r<=n
 | a::rs,r,n,h,hr=>by
   simp only[xz]at h;rcases Zk.1 hr with rfl|q;omega;exact eV (rs:=rs) (by omega) q
end Go.V
namespace Go.V
theorem xB:∀ {fs:List Ty} {e:aP},bR fs e->e.length=fs.length
 |[],[],_=>rfl
 |[],_::_,h=>h.elim
 |_::_,[],h=>h.elim
 |_::fs,_::e,h=>by simp only[List.length_cons];rw[xB h.2]
theorem Rw.wid {fs:List Ty}{es:af}(h:Rw fs es){n:Nat}(hn:n<es.length):(es.getD n []).length=fs.length:=xB (h.at hn)
theorem xy:∀ {es:af} {n:Nat} {e:aP},cP (es.set n e)<=cP es+gx e
 |[],_,_=>by simp[cP]
 |a::es,0,e=>by simp only[List.set_cons_zero,cP];omega
 | a::es,n+1,e=>by
   have:=xy (es:=es) (n:=n) (e:=e);simp only[List.set_cons_succ,cP];omega
theorem vf {es:af}{n:Nat}{e:aP}:av (es.set n e)<=av es+gx e:=by
 unfold av;rw[List.length_set];have:=xy (es:=es) (n:=n) (e:=e);omega
theorem aeO {u:af}{i:Int}{b:Bool}(h:Rw [tB] u)(h0:0<=i)(h1:i<u.length):jS (.s 1 u) [(i.toNat,0)] [.v (.bool b)]=u.set i.toNat [.v (.bool b)]:=eZ (by rw[h.wid (by omega)];rfl)
theorem S9 {t:Ty}{u:af}{i:Int}(h:Rw [t] u)(h0:0<=i)(h1:i<u.length):∃ rec o',bQ (.s 1 u) [(i.toNat,0)]=some (rec,o')/\o'+1<=rec.length:=eL (by omega) (by rw[h.wid (by omega)];exact Ze _)
end Go.V
namespace Go.V
def pj (cs:af)(fr k v:Int):af:=cs.set fr.toNat [.s 1 ((aO cs fr 0).set k.toNat [.i v])]
theorem zh {cs:af}{fr:Int}(h:Rw [.sl [tI]] cs)(h0:0<=fr)(h1:fr<cs.length):cs.getD fr.toNat []=[.s 1 (aO cs fr 0)]:=h.eta h0 h1
theorem aeN {cs:af}{fr k v:Int}(h:Rw [.sl [tI]] cs)(h0:0<=fr)(h1:fr<cs.length)(k0:0<=k)(k1:k<(aO cs fr 0).length):jS (.s 1 cs) [(fr.toNat,0),(k.toNat,0)] [.i v]=pj cs fr k v:=by
 have hr:Rw [tI] (aO cs fr 0):=Rw.sub (fs:=[.sl [tI]]) h (by omega) rfl;have hw:=hr.wid (n:=k.toNat) (by omega);show cs.set fr.toNat ((cs.getD fr.toNat []).set 0 (jM ((cs.getD fr.toNat []).getD 0 .g) [(k.toNat,0)] [.i v]))=_;rw[zh h h0 h1];show cs.set fr.toNat [.s 1 ((aO cs fr 0).set k.toNat (((aO cs fr 0).getD k.toNat []).take 0++[.i v]++((aO cs fr 0).getD k.toNat []).drop (0+1)))]=_;have hw':((aO cs fr 0).getD k.toNat []).length=1:=hw;rw[List.take_zero,List.drop_of_length_le (by omega)];rfl
theorem Tc {cs:af}{fr k:Int}(h:Rw [.sl [tI]] cs)(h0:0<=fr)(h1:fr<cs.length)(k0:0<=k)(k1:k<(aO cs fr 0).length):∃ rec o',bQ (.s 1 cs) [(fr.toNat,0),(k.toNat,0)]=some (rec,o')/\o'+1<=rec.length:=by
 have hr:Rw [tI] (aO cs fr 0):=Rw.sub (fs:=[.sl [tI]]) h (by omega) rfl;have hw:=hr.wid (n:=k.toNat) (by omega);refine⟨(aO cs fr 0).getD k.toNat [],0,?_,?_⟩
 ·have e:=zh h h0 h1;have e1:cs[fr.toNat]?=some [.s 1 (aO cs fr 0)]:=by
   rw[Zn,Zu (by omega)]at e;rw[Zu (by omega)];simpa using e
  show(match cs[fr.toNat]? with
   | some rec=>match rec[0]? with
     |some l=>bQ l [(k.toNat,0)]
     |none=>none
   |none=>none)=_
  rw[e1];show(((aO cs fr 0)[k.toNat]?).map (·,0))=_;rw[Zn,Zu (by omega)];rfl
 ·rw[hw];exact Ze _
theorem iS {cs:af}{fr:Int}:ma (.s 1 cs) [(fr.toNat,0)]=aO cs fr 0:=K2
theorem NI {cs:af}{fr:Int}(h:Rw [.sl [tI]] cs)(h0:0<=fr)(h1:fr<cs.length):cs[fr.toNat]?=some [.s 1 (aO cs fr 0)]:=by
 have e:=zh h h0 h1;rw[Zn,Zu (by omega)]at e;rw[Zu (by omega)];simpa using e
theorem yJ {cs:af}{fr:Int}(h:Rw [.sl [tI]] cs)(h0:0<=fr)(h1:fr<cs.length):∃ rec o,bQ (.s 1 cs) [(fr.toNat,0)]=some (rec,o)/\o+[L.s 1 []].length<=rec.length/\Z7 [L.s 1 []].length (Ym o rec)=jL am (.s 1 cs) [(fr.toNat,0)] 0 [L.s 1 []]:=by
 refine⟨[.s 1 (aO cs fr 0)],0,?_,Ze _,?_⟩
 ·show(cs[fr.toNat]?).map (·,0)=_;rw[NI h h0 h1];rfl
 ·show[L.s 1 (aO cs fr 0)]=[L.s 1 (ma (.s 1 cs) [(fr.toNat,0)])];rw[iS]
theorem vz {cs:af}{fr:Int}(h:Rw [.sl [tI]] cs)(h0:0<=fr)(h1:fr<cs.length):∃ es,fT (.s 1 cs) [(fr.toNat,0)]=some (1,es):=by
 refine⟨aO cs fr 0,?_⟩;rw[Kg (by omega),zh h h0 h1];rfl
theorem IT {cs:af}{fr k v:Int}(h:Rw [.sl [tI]] cs)(h0:0<=fr)(h1:fr<cs.length)(hv: -9223372036854775808<=v/\v<=9223372036854775807):Rw [.sl [tI]] (pj cs fr k v):=by
 have hr:Rw [tI] (aO cs fr 0):=Rw.sub (fs:=[.sl [tI]]) h (by omega) rfl;exact h.set (show bR [.sl [tI]] [.s 1 _]from⟨⟨rfl,hr.set (show bR [tI] [.i v]from⟨⟨rfl,hv⟩,trivial⟩) _⟩,trivial⟩) _
def smM (cs us es:af)(a:Int):Int:=if machOk cs us es=true then leM es a else 0
def smF (cs us es:af)(a:Int):Int:=if machOk cs us es=true then leF es a else 0
def stK (cs us es:af)(a v:Int):Int:=if smM cs us es a=0 then 1 else if smM cs us es a=1 then 2 else if inR v 0 999=true then 0 else 3
def stC (cs us es:af)(a v:Int):af:=if stK cs us es a v=0 then pj cs (smF cs us es a) (a%16) v else cs
def clsSz (k:Int):Int:=if k=0 then 1 else if k=1 then 2 else if k=2 then 4 else if k=3 then 8 else 0
def clsOf (s:Int):Int:=if s<1 then-1 else if s<=1 then 0 else if s<=2 then 1 else if s<=4 then 2 else if s<=8 then 3 else-1
theorem R0 {k:Int}(h:inR k 0 3=false):clsSz k=0:=by rw[xQ]at h;unfold clsSz;repeat' split<;>omega
theorem R1 {k:Int}(h:inR k 0 3=true):IN .shl Za 1 k=clsSz k:=by
 rw[bi]at h;rcases(show k=0\/k=1\/k=2\/k=3 by omega)with rfl|rfl|rfl|rfl<;>decide
theorem L2 {k s:Int}(h0:0<=k/\k<=3)(h:clsSz k<s)(hs:1<=s/\s<=8):k+1<=3:=by
 rcases(show k=0\/k=1\/k=2\/k=3 by omega)with rfl|rfl|rfl|rfl<;>simp[clsSz]at h<;>omega
theorem RX {s:Int}(h:s<1\/8<s):clsOf s= -1:=by unfold clsOf;repeat' split<;>omega
theorem N7 {k s:Int}(h0:0<=k/\k<=3)(h:s<=clsSz k)(hs:1<=s/\s<=8)(hp:k=0\/clsSz (k-1)<s):clsOf s=k:=by
 rcases(show k=0\/k=1\/k=2\/k=3 by omega)with rfl|rfl|rfl|rfl<;>simp[clsSz]at h hp<;>unfold clsOf<;>repeat' split<;>omega
end Go.V
namespace Go.V
theorem LZ {s:Int}(h:0<=clsOf s):1<=s/\s<=clsSz (clsOf s)/\clsSz (clsOf s)<=8/\clsOf s<=3:=by
 unfold clsOf at h ⊢
 repeat' split at h
 all_goals simp_all [clsSz]
 all_goals omega
theorem Df {l:af}{i:Int}(h0:0<=i):Ad (.s 1 l) [(i.toNat,0)]=ag l i 0:=by
 rw[za];unfold ag;rw[ZJ]
theorem Ki {l:af}{i:Int}(h:Rw [tI] l)(h0:0<=i)(h1:i<l.length):∃ rec o,bQ (.s 1 l) [(i.toNat,0)]=some (rec,o)/\o+[L.v (Zi Za 0)].length<=rec.length/\Z7 [L.v (Zi Za 0)].length (Ym o rec)=jL am (.s 1 l) [(i.toNat,0)] 0 [L.v (Zi Za 0)]:=by
 have e:l.getD i.toNat []=[L.i (ag l i 0)]:=h.eta h0 h1;rw[Zn,Zu (by omega)]at e;have e1:l[i.toNat]?=some [.i (ag l i 0)]:=by
  rw[Zu (by omega)];exact congrArg some e
 refine⟨[.i (ag l i 0)],0,?_,Ze _,?_⟩
 ·rw[kz,e1];rfl
 ·show[L.i (ag l i 0)]=[L.i (Ad (.s 1 l) [(i.toNat,0)])];rw[Df h0]
end Go.V
namespace Go.V
def yf (us:af)(j:Int):Bool:=pF us j 0
def dH (us:af):Int:=match(Zm us.length).find? (fun j:Nat=> !pF us (j:Int) 0)with
 |some j=>(j:Int)
 |none=> -1
theorem free_at {us:af}{i:Int}(h:upto (yf us) i)(h0:0<=i)(h1:i<us.length)(h2:pF us i 0=false):dH us=i:=by
 have e:((i.toNat:Nat):Int)=i:=Zr h0;have:(Zm us.length).find? (fun j:Nat=> !pF us (j:Int) 0)=some i.toNat:=by
  rw[XJ];refine⟨by rw[e,h2];rfl,Ye.2 (by omega),fun j hj=>?_⟩;have:=h j (by omega) (by omega);unfold yf at this;rw[this];rfl
 unfold dH;rw[this];exact e
theorem Kb {us:af}{i:Int}(h:upto (yf us) i)(h1:(us.length:Int)<=i):dH us= -1:=by
 have:(Zm us.length).find? (fun j:Nat=> !pF us (j:Int) 0)=none:=by
  rw[WJ];intro j hj;have:=h j (by omega) (by omega);unfold yf at this;rw[this];rfl
 unfold dH;rw[this]
theorem uf {us:af}:dH us= -1\/0<=dH us/\dH us<us.length:=by
 unfold dH;split
 ·rename_i j h;rw[XJ]at h;have:=Ye.1 h.2.1;omega
 ·exact .inl rfl
def ftB (cs us:af):Bool:=framesOk cs us&&decide (0<=dH us)
def ftI (cs us:af):Int:=if ftB cs us=true then dH us else-1
def ftU (cs us:af):af:=if ftB cs us=true then us.set (dH us).toNat [.v (.bool true)]else us
theorem Mk {cs us:af}(h:framesOk cs us=false\/dH us= -1):ftB cs us=false/\ftI cs us= -1/\ftU cs us=us:=by
 have:ftB cs us=false:=by
  unfold ftB;rcases h with h|h
  ·rw[h];rfl
  ·rw[h];simp
 unfold ftI ftU;rw[this];exact⟨rfl,rfl,rfl⟩
theorem He {cs us:af}{i:Int}(hf:framesOk cs us=true)(h0:0<=i)(h:dH us=i):ftB cs us=true/\ftI cs us=i/\ftU cs us=us.set i.toNat [.v (.bool true)]:=by
 have:ftB cs us=true:=by unfold ftB;rw[hf,h,VI h0];rfl
 unfold ftI ftU;rw[this,h];exact⟨rfl,rfl,rfl⟩
theorem Hd {a b a' b':af}{i i':Int}{x y:Bool}(h1:a=a')(h2:b=b')(h3:i=i')(h4:x=y):[DV.agg [.s 1 a,.s 1 b],DV.j i,DV.k x]=[DV.agg [.s 1 a',.s 1 b'],DV.j i',DV.k y]:=by rw[h1,h2,h3,h4]
theorem SU {cs us:af}(h:ftB cs us=true):0<=ftI cs us/\ftI cs us<cs.length/\ftI cs us=dH us/\ftU cs us=us.set (dH us).toNat [.v (.bool true)]:=by
 have hf:framesOk cs us=true/\0<=dH us:=by unfold ftB at h;simpa using h
 have q:=He hf.1 hf.2 rfl;have hb:=uf (us:=us);have hl:=rQ hf.1;rw[q.2.1,q.2.2];exact⟨hf.2,by omega,rfl,rfl⟩
theorem ua {fs:List Ty}{cs:af}{fr:Int}(h:Rw [.sl fs] cs)(h0:0<=fr)(h1:fr<cs.length):cs[fr.toNat]?=some [.s fs.length (aO cs fr 0)]:=by
 have e:cs.getD fr.toNat []=[.s fs.length (aO cs fr 0)]:=h.eta h0 h1;rw[Zn,Zu (by omega)]at e;rw[Zu (by omega)];simpa using e
theorem Hg {cs:af}{fr:Int}(h:Rw [.sl [tI,tI]] cs)(h0:0<=fr)(h1:fr<cs.length):∃ rec o,bQ (.s 1 cs) [(fr.toNat,0)]=some (rec,o)/\o+[L.s 2 []].length<=rec.length/\Z7 [L.s 2 []].length (Ym o rec)=jL am (.s 1 cs) [(fr.toNat,0)] 0 [L.s 2 []]:=by
 refine⟨[.s 2 (aO cs fr 0)],0,?_,Ze _,?_⟩
 ·show(cs[fr.toNat]?).map (·,0)=_;rw[ua h h0 h1];rfl
 ·show[L.s 2 (aO cs fr 0)]=[L.s 2 (ma (.s 1 cs) [(fr.toNat,0)])];rw[iS]
theorem Fp {cs:af}{fr:Int}(h:Rw [.sl [tI,tI]] cs)(h0:0<=fr)(h1:fr<cs.length):∃ es,fT (.s 1 cs) [(fr.toNat,0)]=some (2,es):=by
 refine⟨aO cs fr 0,?_⟩;unfold fT;show(match(cs[fr.toNat]?).map (·,0)with
  | some (rec,o)=>match rec[o]? with
    |some (.s sz es)=>some (sz,es)
    |_=>none
  |none=>none)=_
 rw[ua h h0 h1];rfl
theorem y9 {es:af}{f:Int}:∀ {n:Nat} {e:aP},e∈vS es f n->∃ k:Nat,k<n/\e=[.i k]
 |0,e,h=>by cases h
 | n+1,e,h=>by
   unfold vS at h;split at h
   ·rcases List.mem_append.1 h with q|q
    ·obtain⟨k,hk,e⟩:=y9 q;exact⟨k,by omega,e⟩
    ·rw[List.mem_singleton]at q;exact⟨n,by omega,q⟩
   ·obtain⟨k,hk,e⟩:=y9 h;exact⟨k,by omega,e⟩
theorem If {es:af}{f:Int}(h:es.length<=1099511627776):Rw [tI] (pagesOn es f):=by
 have hl:=x7 (es:=es) (f:=f);refine⟨by simp[maxLen];omega,fun e he=>?_⟩;obtain⟨k,hk,rfl⟩:=y9 he;exact⟨⟨rfl,(show-9223372036854775808<=(k:Int)/\(k:Int)<=9223372036854775807 by omega)⟩,trivial⟩
end Go.V
namespace Go.V
def cQ (p:Int->Bool)(n:Nat):Int:=match(Zm n).find? (fun j:Nat=>p (j:Int))with
 |some j=>(j:Int)
 |none=> -1
def cK (p:Int->Bool)(j:Int):Bool:= !p j
theorem ft {p:Int->Bool}{i:Int}(h:p i=false):cK p i=true:=by unfold cK;rw[h];rfl
theorem du {p:Int->Bool}{n:Nat}{i:Int}(h:upto (cK p) i)(h0:0<=i)(h1:i<n)(h2:p i=true):cQ p n=i:=by
 have e:((i.toNat:Nat):Int)=i:=Zr h0;have:(Zm n).find? (fun j:Nat=>p (j:Int))=some i.toNat:=by
  rw[XJ];refine⟨by rw[e];exact h2,Ye.2 (by omega),fun j hj=>?_⟩;exact h j (by omega) (by omega)
 unfold cQ;rw[this];exact e
theorem d7 {p:Int->Bool}{n:Nat}{i:Int}(h:upto (cK p) i)(h1:(n:Int)<=i):cQ p n= -1:=by
 have:(Zm n).find? (fun j:Nat=>p (j:Int))=none:=by
  rw[WJ];intro j hj;exact h j (by omega) (by omega)
 unfold cQ;rw[this]
theorem qq {p:Int->Bool}{n:Nat}:cQ p n= -1\/0<=cQ p n/\cQ p n<n:=by
 unfold cQ;split
 ·rename_i j h;rw[XJ]at h;have:=Ye.1 h.2.1;omega
 ·exact .inl rfl
def eqB (a b:Int):Bool:=decide (a=b)
theorem vm {a b:Int}(h:a=b):eqB a b=true:=VI h
theorem xH {a b:Int}(h:a≠b):eqB a b=false:=VJ h
end Go.V
namespace Go.V
def Bq (f:Int->Int):Nat->Int
 |0=>0
 |n+1=>bO .add Za (Bq f n) (f n)
theorem Ly {f:Int->Int}{i:Int}(h:0<=i):Bq f (i+1).toNat=bO .add Za (Bq f i.toNat) (f i):=by
 have e:((i.toNat:Nat):Int)=i:=Zr h;rw[show(i+1).toNat=i.toNat+1 by omega,Bq,e]
def szF (os:af)(i:Int):Int:=ag os i 2
def lsI (os:af):Int:=Bq (szF os) os.length
def AX (os:af)(a j:Int):Bool:=eqB (ag os j 1) a
def obI (os:af)(a:Int):Int:=cQ (AX os a) os.length
def isSp (ss:af)(p j:Int):Bool:=eqB (ag ss j 0) p
def spI (ss:af)(p:Int):Int:=cQ (isSp ss p) ss.length
end Go.V
namespace Go.V
def q8 (x:Int):BitVec 64:=ZU 64 x
theorem zW (x:BitVec 64):YY Za (x.toNat:Int)=x.toInt:=by
 have h:=x.isLt;rw[BitVec.toInt_eq_toNat_cond];simp only[YY,WL,WM,Bool.true_and,VK,show(64-1:Nat)=63 from rfl];split<;>split<;>omega
theorem aaL {a b:Int}:bO .or Za a b=(q8 a|||q8 b).toInt:=zW _
theorem NN {x:BitVec 64}:q8 x.toInt=x:=BitVec.ofInt_toInt
def fpg (es:af)(p:Int):af:=if peM es p=0 then[]else pagesOn es (peF es p)
theorem Oy {es:af}{p:Int}(h:peM es p=0):fpg es p=[]:=by unfold fpg;rw[VL h]
theorem Ka {es:af}{p:Int}(h:peM es p≠0):fpg es p=pagesOn es (peF es p):=by unfold fpg;rw[VM h]
theorem Oz {es:af}{p:Int}(h:es.length<=1099511627776):Rw [tI] (fpg es p)/\(fpg es p).length<=1099511627776:=by
 unfold fpg;split;exact⟨Rw.nil,by simp⟩;exact⟨If h,ZI x7 h⟩
def TR (l:af)(x j:Int):Bool:=eqB x (ag l j 0)
def idxI (l:af)(x:Int):Int:=cQ (TR l x) l.length
def hasB (l:af)(x:Int):Bool:=decide (0<=idxI l x)
def FR (ss l:af)(b:Int):Nat->Int
 |0=>b
 |n+1=>if hasB l (ag ss n 0)=true then bO .or Za (FR ss l b n) (ag ss n 2)else FR ss l b n
theorem LE {ss l:af}{b i:Int}(h:0<=i)(q:hasB l (ag ss i 0)=true):FR ss l b (i+1).toNat=bO .or Za (FR ss l b i.toNat) (ag ss i 2):=by
 have e:((i.toNat:Nat):Int)=i:=Zr h;rw[show(i+1).toNat=i.toNat+1 by omega,FR,e,VL q]
theorem QI {ss l:af}{b i:Int}(h:0<=i)(q:hasB l (ag ss i 0)=false):FR ss l b (i+1).toNat=FR ss l b i.toNat:=by
 have e:((i.toNat:Nat):Int)=i:=Zr h;rw[show(i+1).toNat=i.toNat+1 by omega,FR,e,q];rfl
def ubB (es ss:af)(i:Int):Int:=if inR i 0 (ss.length-1)=true then FR ss (fpg es (ag ss i 0)) (ag ss i 2) ss.length else 0
theorem abL {es ss:af}{i:Int}(h:inR i 0 (ss.length-1)=false):ubB es ss i=0:=by unfold ubB;rw[h];rfl
theorem QJ {es ss:af}{i:Int}(h:inR i 0 (ss.length-1)=true):ubB es ss i=FR ss (fpg es (ag ss i 0)) (ag ss i 2) ss.length:=by unfold ubB;rw[VL h]
end Go.V
namespace Go.V
def slB (b i:Int):Bool:=decide (0<=b)&&inR i 0 15
def hsB (b i:Int):Bool:=slB b i&&decide (bO .and Za (IN .shr Za b i) 1=1)
theorem Bm {b i:Int}:slB b i=true↔0<=b/\0<=i/\i<=15:=by simp[slB,inR]
theorem Hn {b i:Int}(h:slB b i=false):hsB b i=false:=by unfold hsB;rw[h];rfl
theorem wO {i:Int}(h0:0<=i)(h1:i<=15):Nh .u64 i=i:=by
 show YY .u64 i=i;simp only[YY,WL,WM,Bool.false_and];rw[VM (by simp)];omega
def ctN (b:Int):Nat->Int
 |0=>0
 |n+1=>if hsB b n=true then bO .add Za (ctN b n) 1 else ctN b n
def ctI (b:Int):Int:=ctN b 16
def aeb (ss:af)(i:Int):aP:=[.i (ag ss i 0),.i (ag ss i 1),.i (ag ss i 2)]
def msN (es ss:af):Nat->af
 |0=>[]
 |n+1=>if 0<ctI (ag ss n 2)/\(fpg es (ag ss n 0)).length=1 then msN es ss n++[aeb ss n]else msN es ss n
def msS (es ss:af):af:=msN es ss ss.length
end Go.V
namespace Go.V
def xu:af:=Zq 16 [.i 0]
def fnC (n:Int):af:=if inR n 1 32=true then Zq n.toNat [.s 1 xu]else[]
def fnU (n:Int):af:=if inR n 1 32=true then Zq n.toNat [.v (.bool false)]else[]
def tnE (n:Int):af:=if inR n 1 32=true then Zq n.toNat [.i 0,.i 0]else[]
theorem nY {n:Int}(h:inR n 1 32=true):fnC n=Zq n.toNat [.s 1 xu]/\fnU n=Zq n.toNat [.v (.bool false)]/\tnE n=Zq n.toNat [.i 0,.i 0]:=by
 unfold fnC fnU tnE;rw[VL h,VL h,VL h];exact⟨rfl,rfl,rfl⟩
theorem Me {n:Int}(h:inR n 1 32=false):fnC n=[]/\fnU n=[]/\tnE n=[]:=by
 unfold fnC fnU tnE;rw[h];exact⟨rfl,rfl,rfl⟩
theorem Is {r:aP}{i:Int}(h:0<=i):Zq i.toNat r++[r]=Zq (i+1).toNat r:=by
 rw[show(i+1).toNat=i.toNat+1 by omega,List.replicate_succ']
def mnB (p f:Int):Bool:=inR f 1 32&&inR p 1 32
def mnC (p f:Int):af:=if mnB p f=true then fnC f else[]
def mnU (p f:Int):af:=if mnB p f=true then fnU f else[]
def mnE (p f:Int):af:=if mnB p f=true then tnE p else[]
theorem oj {p f:Int}(h:inR f 1 32=true)(h2:inR p 1 32=true):mnC p f=fnC f/\mnU p f=fnU f/\mnE p f=tnE p/\mnB p f=true:=by
 have e:mnB p f=true:=by unfold mnB;rw[h,h2];rfl
 unfold mnC mnU mnE;rw[VL e,VL e,VL e];exact⟨rfl,rfl,rfl,e⟩
theorem A4 {p f:Int}(h:mnB p f=false):mnC p f=[]/\mnU p f=[]/\mnE p f=[]/\mnB p f=false:=by
 unfold mnC mnU mnE;rw[h];exact⟨rfl,rfl,rfl,rfl⟩
theorem PI {p f:Int}(h:inR f 1 32=false):mnB p f=false:=by unfold mnB;rw[h];rfl
theorem PL {p f:Int}(h:inR p 1 32=false):mnB p f=false:=by unfold mnB;rw[h];simp
theorem PM {p f:Int}(h:mnB p f=true):inR f 1 32=true/\inR p 1 32=true:=by unfold mnB at h;simpa using h
def FD (rs:af)(i:Int):Bool:=decide (0<=ag rs i 0)
def md (rs:af):Bool:=dt (FD rs) rs.length&&decide (rs.length<=40)
def kerOk (cs us es:af)(c:Int)(rs:af):Bool:=machOk cs us es&&inR c 0 100000&&md rs
theorem Qf {rs:af}{i:Int}(h:0<=ag rs i 0):FD rs i=true:=VI h
theorem Qg {cs us es rs:af}{c i:Int}(h0:0<=i)(h1:i<rs.length)(h:ag rs i 0<0):kerOk cs us es c rs=false:=by
 unfold kerOk md;rw[cN h0 h1 (by unfold FD;exact VJ (by omega))];simp
theorem Lc {rs:af}{i:Int}(h:upto (FD rs) i)(hi:(rs.length:Int)<=i)(hl:(rs.length:Int)<=40):md rs=true:=by
 unfold md;rw[cu h hi,VI (by omega)];rfl
theorem Lb {rs:af}(hl:¬ (rs.length:Int)<=40):md rs=false:=by
 unfold md;rw[VJ (by omega)];simp
theorem En {cs us es rs:af}{c:Int}(h1:machOk cs us es=true)(h2:inR c 0 100000=true)(h3:md rs=true):kerOk cs us es c rs=true:=by unfold kerOk;rw[h1,h2,h3];rfl
theorem Ks {cs us es rs:af}{c:Int}(h1:inR c 0 100000=false):kerOk cs us es c rs=false:=by unfold kerOk;rw[h1];simp
theorem Kt {cs us es rs:af}{c:Int}(h1:md rs=false):kerOk cs us es c rs=false:=by unfold kerOk;rw[h1];simp
theorem TY {cs us es rs:af}{c:Int}(h:kerOk cs us es c rs=true):machOk cs us es=true/\inR c 0 100000=true/\md rs=true:=by
 unfold kerOk at h;simp only[Zc]at h;exact⟨h.1.1,h.1.2,h.2⟩
theorem qL {r:aP}{n:Nat}{i:Int}(h0:0<=i)(h1:i<n):(Zq n r).getD i.toNat []=r:=by
 rw[Zn,List.getElem?_replicate,VL (by omega)];rfl
theorem C5 {n:Nat}{i:Int}{j:Nat}(h0:0<=i)(h1:i<n)(hj:j<2):ag (Zq n [.i 0,.i 0]) i j=0:=by
 unfold ag;rw[qL h0 h1];rcases(show j=0\/j=1 by omega)with rfl|rfl<;>rfl
theorem FC {n:Nat}{f:Int}:pagesOn (Zq n [.i 0,.i 0]) f=[]:=by
 have key:∀ m,m<=n->vS (Zq n [.i 0,.i 0]) f m=[]:=by
  intro m
  induction m with
  |zero=>intro _;rfl
  | succ m ih=>
    intro h;rw[Ij (.inl (C5 (by omega) (by omega) (by omega)))];exact ih (by omega)
 unfold pagesOn;exact key _ (by simp)
theorem HZ {f p:Int}(hf:inR f 1 32=true)(hp:inR p 1 32=true):machOk (fnC f) (fnU f) (tnE p)=true:=by
 have h1:=bi.1 hf;have h2:=bi.1 hp;rw[(nY hf).1,(nY hf).2.1,(nY hp).2.2];have fo:framesOk (Zq f.toNat [.s 1 xu]) (Zq f.toNat [.v (.bool false)])=true:=by
  refine Cw (i:=f) ?_ (by simp) ?_ (by simp;omega)
  ·rw[Xv,bi];omega
  ·intro j j0 j1;have e:aO (Zq f.toNat [.s 1 xu]) j 0=xu:=by unfold aO;rw[qL j0 (by omega)];rfl
   refine Hb (k:=16) (by rw[e];rfl) ?_ (by omega);intro k k0 k1;have e2:ag xu k 0=0:=by unfold ag xu;rw[qL k0 (by omega)];rfl
   refine GI (by rw[e,e2];rfl) (.inr (by rw[e,e2]))
 have to:tableOk (Zq p.toNat [.i 0,.i 0]) (Zq f.toNat [L.s 1 xu]).length=true:=by
  rw[Dv (i:=p) ?_ (by simp;omega)]
  ·rw[Xv,bi];omega
  ·intro j j0 j1;refine IW ?_;rw[C5 j0 (by omega) (by omega),C5 j0 (by omega) (by omega)];omega
 refine C0 (i:=f) fo ?_ ?_ (by simp;omega)
 ·rw[(rQ fo).1];exact to
 ·intro j j0 j1;refine HP ?_;have e:pF (Zq f.toNat [.v (.bool false)]) j 0=false:=by unfold pF;rw[qL j0 (by omega)];rfl
  rw[e];unfold eY;rw[FC];rfl
def knB (p f:Int)(rs:af):Bool:=mnB p f&&md rs
def knC (p f:Int)(rs:af):af:=if knB p f rs=true then fnC f else[]
def knU (p f:Int)(rs:af):af:=if knB p f rs=true then fnU f else[]
def knE (p f:Int)(rs:af):af:=if knB p f rs=true then tnE p else[]
def knR (p f:Int)(rs:af):af:=if knB p f rs=true then rs else[]
theorem HE {p f:Int}{rs:af}(h:knB p f rs=true):knC p f rs=fnC f/\knU p f rs=fnU f/\knE p f rs=tnE p/\knR p f rs=rs:=by
 unfold knC knU knE knR;rw[VL h,VL h,VL h,VL h];exact⟨rfl,rfl,rfl,rfl⟩
theorem Mt {p f:Int}{rs:af}(h:knB p f rs=false):knC p f rs=[]/\knU p f rs=[]/\knE p f rs=[]/\knR p f rs=[]:=by
 unfold knC knU knE knR;rw[h];exact⟨rfl,rfl,rfl,rfl⟩
theorem OJ:XI Za 0:=by unfold XI;decide
theorem C3 {p f:Int}:Rw [.sl [tI]] (mnC p f)/\Rw [tB] (mnU p f)/\Rw [tI,tI] (mnE p f):=by
 cases h:mnB p f
 ·rw[(A4 h).1,(A4 h).2.1,(A4 h).2.2.1];exact⟨Rw.nil,Rw.nil,Rw.nil⟩
 ·obtain⟨hf,hp⟩:=PM h;rw[(oj hf hp).1,(oj hf hp).2.1,(oj hf hp).2.2.1,(nY hf).1,(nY hf).2.1,(nY hp).2.2];have h1:=bi.1 hf;have h2:=bi.1 hp;have z:bR [tI] [L.i 0]:=⟨⟨rfl,OJ⟩,trivial⟩;refine⟨Rw.replicate (fs:=[.sl [tI]]) ?_ (by unfold maxLen;omega),Rw.replicate (fs:=[tB]) ?_ (by unfold maxLen;omega),Rw.replicate (fs:=[tI,tI]) ?_ (by unfold maxLen;omega)⟩;exact⟨⟨rfl,Rw.replicate (fs:=[tI]) z (by unfold maxLen;omega)⟩,trivial⟩;exact⟨trivial,trivial⟩;exact⟨⟨rfl,OJ⟩,⟨rfl,OJ⟩,trivial⟩
theorem KN {p f:Int}(h:mnB p f=true):machOk (mnC p f) (mnU p f) (mnE p f)=true:=by
 obtain⟨hf,hp⟩:=PM h;rw[(oj hf hp).1,(oj hf hp).2.1,(oj hf hp).2.2.1];exact HZ hf hp
theorem T0 {p f:Int}{rs:af}(h:mnB p f=true)(k:kerOk (mnC p f) (mnU p f) (mnE p f) 0 rs=true):knB p f rs=true:=by
 unfold knB;rw[h,(TY k).2.2];rfl
theorem Pe {p f:Int}{rs:af}(h:mnB p f=true)(k:kerOk (mnC p f) (mnU p f) (mnE p f) 0 rs=false):knB p f rs=false:=by
 unfold knB;cases q:md rs
 ·simp
 ·rw[En (KN h) rfl q]at k;cases k
theorem Kv {p f:Int}{rs:af}(h:mnB p f=false):knB p f rs=false:=by unfold knB;rw[h];rfl
theorem adU {p f:Int}{rs:af}(h:knB p f rs=true):mnB p f=true:=by unfold knB at h;simp only[Zc]at h;exact h.1
def mwB (t:Int):af:=if inR t 1 4=true then Zq t.toNat [.s 2 []]else[]
def mwI (t:Int):af:=if inR t 1 4=true then Zq t.toNat [.s 1 []]else[]
theorem PO {t:Int}(h:inR t 1 4=true):mwB t=Zq t.toNat [.s 2 []]/\mwI t=Zq t.toNat [.s 1 []]:=by unfold mwB mwI;rw[VL h,VL h];exact⟨rfl,rfl⟩
theorem aao {t:Int}(h:inR t 1 4=false):mwB t=[]/\mwI t=[]:=by unfold mwB mwI;rw[h];exact⟨rfl,rfl⟩
def qnR (r:Int):Int:=if inR r 0 500=true then r else 0
theorem Qa {r:Int}(h:inR r 0 500=true):qnR r=r:=by unfold qnR;rw[VL h]
theorem aba {r:Int}(h:inR r 0 500=false):qnR r=0:=by unfold qnR;rw[h];rfl
def cnL:af:=Zq 4 [.s 1 []]
def hnB (p f t l:Int)(rs:af):Bool:=knB p f rs&&(inR t 1 4&&inR l 0 1000)
def hnC (p f t l:Int)(rs:af):af:=if hnB p f t l rs=true then fnC f else[]
def hnU (p f t l:Int)(rs:af):af:=if hnB p f t l rs=true then fnU f else[]
def hnE (p f t l:Int)(rs:af):af:=if hnB p f t l rs=true then tnE p else[]
def hnR (p f t l:Int)(rs:af):af:=if hnB p f t l rs=true then rs else[]
def hnF (p f t l:Int)(rs:af):af:=if hnB p f t l rs=true then[[.i 0,.i p]]else[]
def hnK (p f t l:Int)(rs:af):af:=if hnB p f t l rs=true then Zq t.toNat [.s 1 cnL]else[]
def hnM (p f t l:Int)(rs:af):af:=if hnB p f t l rs=true then mwB t else[]
def hnI (p f t l:Int)(rs:af):af:=if hnB p f t l rs=true then mwI t else[]
def hnQ (p f t l:Int)(rs:af):Int:=if hnB p f t l rs=true then 16 else 0
def hnL (p f t l:Int)(rs:af):Int:=if hnB p f t l rs=true then l else 0
def hnN (p f t l:Int)(rs:af):Int:=if hnB p f t l rs=true then 1 else 0
theorem ON {p f t l:Int}{rs:af}(h:hnB p f t l rs=true):hnC p f t l rs=fnC f/\hnU p f t l rs=fnU f/\hnE p f t l rs=tnE p/\hnR p f t l rs=rs/\hnF p f t l rs=[[.i 0,.i p]]/\
 hnK p f t l rs=Zq t.toNat [.s 1 cnL]/\hnM p f t l rs=mwB t/\hnI p f t l rs=mwI t/\hnQ p f t l rs=16/\hnL p f t l rs=l/\hnN p f t l rs=1:=by
 unfold hnC hnU hnE hnR hnF hnK hnM hnI hnQ hnL hnN;simp only[h,if_true];exact⟨trivial,trivial,trivial,trivial,trivial,trivial,trivial,trivial,trivial,trivial,trivial⟩
theorem Tu {p f t l:Int}{rs:af}(h:hnB p f t l rs=false):hnC p f t l rs=[]/\hnU p f t l rs=[]/\hnE p f t l rs=[]/\hnR p f t l rs=[]/\hnF p f t l rs=[]/\
 hnK p f t l rs=[]/\hnM p f t l rs=[]/\hnI p f t l rs=[]/\hnQ p f t l rs=0/\hnL p f t l rs=0/\hnN p f t l rs=0:=by
 unfold hnC hnU hnE hnR hnF hnK hnM hnI hnQ hnL hnN;simp[h]
theorem OM {p f t l:Int}{rs:af}:hnB p f t l rs=true↔knB p f rs=true/\inR t 1 4=true/\inR l 0 1000=true:=by unfold hnB;simp
theorem adh {p f t l:Int}{rs:af}(h:¬ (knB p f rs=true/\inR t 1 4=true/\inR l 0 1000=true)):hnB p f t l rs=false:=by
 cases q:hnB p f t l rs
 ·rfl
 ·exact absurd (OM.1 q) h
theorem Mp {c u e r fr k m i c' u' e' r' fr' k' m' i':af}{q l n q' l' n':Int}{b b':Bool}(h1:c=c')(h2:u=u')(h3:e=e')(h4:r=r')(h5:fr=fr')(h6:k=k')(h7:m=m')(h8:i=i')(h9:q=q')(h10:l=l')(h11:n=n')(h12:b=b'):
 [DV.agg (OR c u e 0 r fr [] [] [] k m i q [] 0 0 l n false 0 0 [] 0 0),.k b]=
 [DV.agg (OR c' u' e' 0 r' fr' [] [] [] k' m' i' q' [] 0 0 l' n' false 0 0 [] 0 0),.k b']:=by
 subst h1 h2 h3 h4 h5 h6 h7 h8 h9 h10 h11 h12;rfl
theorem Ix {c u e r c' u' e' r':af}{b b':Bool}(h1:c=c')(h2:u=u')(h3:e=e')(h4:r=r')(h5:b=b'):
 [DV.agg [.s 1 c,.s 1 u,.s 2 e,.i 0,.s 1 r],.k b]=[DV.agg [.s 1 c',.s 1 u',.s 2 e',.i 0,.s 1 r'],.k b']:=by subst h1 h2 h3 h4 h5;rfl
theorem Iy {c u e c' u' e':af}{b b':Bool}(h1:c=c')(h2:u=u')(h3:e=e')(h5:b=b'):
 [DV.agg [.s 1 c,.s 1 u,.s 2 e],.k b]=[DV.agg [.s 1 c',.s 1 u',.s 2 e'],.k b']:=by subst h1 h2 h3 h5;rfl
theorem EQ {k1 k2:Nat}{c u c' u':af}{b b':Bool}(h1:c=c')(h2:u=u')(h5:b=b'):
 [DV.agg [.s k1 c,.s k2 u],.k b]=[DV.agg [.s k1 c',.s k2 u'],.k b']:=by subst h1 h2 h5;rfl
theorem MP {k1:Nat}{c c':af}{b b':Bool}(h1:c=c')(h5:b=b'):
 [DV.agg [.s k1 c],.k b]=[DV.agg [.s k1 c'],.k b']:=by subst h1 h5;rfl
theorem MZ {q q':Int}{b b':Bool}(h1:q=q')(h5:b=b'):
 [DV.agg [.i q,.s 3 []],.k b]=[DV.agg [.i q',.s 3 []],.k b']:=by subst h1 h5;rfl
end Go.V
namespace Go.V
def tU:Ty:=.int .u8
theorem Fc {a:Int}{m:Nat}(hm:m<=4611686018427387904):0<=bO .and Za a m/\bO .and Za a m<=m:=by
 have h1:(ZU 64 a&&&ZU 64 (m:Int)).toNat<=m:=by
  rw[BitVec.toNat_and];refine ZI Nat.and_le_right ?_;rw[BitVec.toNat_ofInt,Int.emod_eq_of_lt (by omega) (by omega)];omega
 have h2:bO .and Za a m=((ZU 64 a&&&ZU 64 (m:Int)).toNat:Int):=by
  show YY Za _=_;refine YZ _ ⟨?_,?_⟩;exact X9 (by decide) (Int.natCast_nonneg _);exact X9 (Int.ofNat_le.2 h1) (by omega)
 rw[h2];omega
def bH (h:Int):Int:=bO .add Za (bO .mul Za h 6364136223846793005) 1442695040888963407
def bY (h:Int):Int:=bO .and Za (bO .xor Za (IN .shr Za (bH h) 33) (IN .shr Za (bH h) 45)) 255
def bI (cs:af)(i:Int):Int:=if i<cs.length then i+1 else i
def bX (cs:af)(i h:Int):Int:=if i<cs.length then bO .and Za (bO .add Za (bY h) (Nh Za (ag cs i 0))) 255 else bY h
theorem LV {cs:af}{i h:Int}(q:i<cs.length):bI cs i=i+1/\bX cs i h=bO .and Za (bO .add Za (bY h) (Nh Za (ag cs i 0))) 255:=by unfold bI bX;rw[VL q,VL q];exact⟨rfl,rfl⟩
theorem Rx {cs:af}{i h:Int}(q:¬ i<cs.length):bI cs i=i/\bX cs i h=bY h:=by unfold bI bX;rw[VM q,VM q];exact⟨rfl,rfl⟩
theorem uH {cs:af}{i:Int}(h0:0<=i)(h1:i<=cs.length):0<=bI cs i/\bI cs i<=cs.length:=by unfold bI;split<;>omega
theorem Ap {cs:af}{i h:Int}:0<=bX cs i h/\bX cs i h<=255:=by
 unfold bX bY;split<;>exact Fc (m:=255) (by decide)
def wI (cs:af)(i n:Int):Int:=if n<=0 then i else if n<=256 then bI cs i else bI cs (bI cs (bI cs (bI cs i)))
def wH (h n:Int):Int:=if n<=0 then h else if n<=256 then bH h else bH (bH (bH (bH h)))
def wS (x y z w:Int):Int:=bO .add Za (bO .add Za (bO .add Za (bO .mul Za x 16777216) (bO .mul Za y 65536)) (bO .mul Za z 256)) w
def wX (cs:af)(i h n:Int):Int:=if n<=0 then 0 else if n<=256 then bO .rem Za (bX cs i h) n else
 bO .rem Za (wS (bX cs i h) (bX cs (bI cs i) (bH h)) (bX cs (bI cs (bI cs i)) (bH (bH h))) (bX cs (bI cs (bI cs (bI cs i))) (bH (bH (bH h))))) n
theorem w_0 {cs:af}{i h n:Int}(q:n<=0):wI cs i n=i/\wH h n=h/\wX cs i h n=0:=by unfold wI wH wX;rw[VL q,VL q,VL q];exact⟨rfl,rfl,rfl⟩
theorem w_1 {cs:af}{i h n:Int}(q:0<n)(q2:n<=256):wI cs i n=bI cs i/\wH h n=bH h/\wX cs i h n=bO .rem Za (bX cs i h) n:=by
 have q3:¬ n<=0:=by omega
 unfold wI wH wX;simp only[VM q3,VL q2];exact⟨trivial,trivial,trivial⟩
theorem w_4 {cs:af}{i h n:Int}(q2:256<n):wI cs i n=bI cs (bI cs (bI cs (bI cs i)))/\wH h n=bH (bH (bH (bH h)))/\
 wX cs i h n=bO .rem Za (wS (bX cs i h) (bX cs (bI cs i) (bH h)) (bX cs (bI cs (bI cs i)) (bH (bH h))) (bX cs (bI cs (bI cs (bI cs i))) (bH (bH (bH h))))) n:=by
 have q3:¬ n<=0:=by omega
 have q4:¬ n<=256:=by omega
 unfold wI wH wX;simp only[VM q3,VM q4];exact⟨trivial,trivial,trivial⟩
theorem abU {cs:af}{i n:Int}(h0:0<=i)(h1:i<=cs.length):0<=wI cs i n/\wI cs i n<=cs.length:=by
 have a:=uH h0 h1;have b:=uH a.1 a.2;have c:=uH b.1 b.2;have d:=uH c.1 c.2;unfold wI;split;exact⟨h0,h1⟩
 ·split;exact a;exact d
theorem HY {a b:Int}(h: -9223372036854775808<=a*b/\a*b<=9223372036854775807):bO .mul Za a b=a*b:=YZ _ h
theorem sf {a n:Int}(ha:0<=a)(hn:0<n):0<=bO .rem Za a n/\bO .rem Za a n<n:=by
 show 0<=a.tmod n/\a.tmod n<n;rw[WI ha];exact⟨Int.emod_nonneg _ (by omega),Int.emod_lt_of_pos _ hn⟩
theorem abV {cs:af}{i h n:Int}(hn:0<n):0<=wX cs i h n/\wX cs i h n<n:=by
 unfold wX;rw[VM (by omega)];split;exact sf Ap.1 hn
 ·have x:=Ap (cs:=cs) (i:=i) (h:=h);have y:=Ap (cs:=cs) (i:=bI cs i) (h:=bH h);have z:=Ap (cs:=cs) (i:=bI cs (bI cs i)) (h:=bH (bH h));have w:=Ap (cs:=cs) (i:=bI cs (bI cs (bI cs i))) (h:=bH (bH (bH h)));refine sf ?_ hn;generalize bX cs i h=x0 at*;generalize bX cs (bI cs i) (bH h)=y0 at*;generalize bX cs (bI cs (bI cs i)) (bH (bH h))=z0 at*;generalize bX cs (bI cs (bI cs (bI cs i))) (bH (bH (bH h)))=w0 at*;unfold wS;have m1:bO .mul Za x0 16777216=x0*16777216:=HY (by omega);have m2:bO .mul Za y0 65536=y0*65536:=HY (by omega);have m3:bO .mul Za z0 256=z0*256:=HY (by omega);rw[m1,m2,m3];have a1:bO .add Za (x0*16777216) (y0*65536)=x0*16777216+y0*65536:=cE (by omega);rw[a1];have a2:bO .add Za (x0*16777216+y0*65536) (z0*256)=x0*16777216+y0*65536+z0*256:=cE (by omega);rw[a2];have a3:bO .add Za (x0*16777216+y0*65536+z0*256) w0=x0*16777216+y0*65536+z0*256+w0:=cE (by omega);rw[a3];omega
def sV (cs:af):Nat->Int
 |0=>bO .add Za 98801 cs.length
 |n+1=>bO .and Za (bO .add Za (bO .add Za (bO .mul Za (sV cs n) 131) (Nh Za (ag cs n 0))) 7) 1073741823
def l01h (cs:af):Int:=sV cs (min cs.length 4000)
theorem Kw {cs:af}{i:Int}(h0:0<=i):sV cs (i+1).toNat=bO .and Za (bO .add Za (bO .add Za (bO .mul Za (sV cs i.toNat) 131) (Nh Za (ag cs i 0))) 7) 1073741823:=by
 have e:((i.toNat:Nat):Int)=i:=Zr h0;rw[show(i+1).toNat=i.toNat+1 by omega,sV,e]
theorem HF {cs:af}{i:Int}(h0:0<=i)(h1:i<=cs.length)(h2:i<=4000)(h3:¬ (i<cs.length/\i<4000)):sV cs i.toNat=l01h cs:=by
 unfold l01h;congr 1;omega
def dpS (cs:af)(s:Int×Int×af):Int×Int×af:=(wI cs s.1 10000,wH s.2.1 10000,s.2.2++[[.i (wX cs s.1 s.2.1 10000)]])
def AC (cs:af):Nat->Int×Int×af
 |0=>(0,l01h cs,[])
 |n+1=>dpS cs (AC cs n)
def dpl (cs:af):af:=(AC cs 12).2.2
theorem Sf {cs:af}{i:Int}(h0:0<=i):AC cs (i+1).toNat=dpS cs (AC cs i.toNat):=by
 rw[show(i+1).toNat=i.toNat+1 by omega,AC]
theorem D7 {cs:af}:∀ n,0<=(AC cs n).1/\(AC cs n).1<=cs.length/\(AC cs n).2.2.length=n/\∀ j:Nat,j<n->∃ x:Int,0<=x/\x<10000/\(AC cs n).2.2.getD j []=[.i x]
 |0=>⟨Yn _,by show(0:Int)<=_;omega,rfl,fun j hj=>by omega⟩
 | n+1=>by
   obtain⟨h1,h2,h3,h4⟩:=D7 (cs:=cs) n;have w:=abU (n:=10000) h1 h2;have x:=abV (cs:=cs) (i:=(AC cs n).1) (h:=(AC cs n).2.1) (n:=10000) (by omega);refine⟨w.1,w.2,by simp[AC,dpS,h3],fun j hj=>?_⟩;simp only[AC,dpS];by_cases c:j<n
   ·obtain⟨y,q1,q2,q3⟩:=h4 j c;refine⟨y,q1,q2,?_⟩;rw[Zn,List.getElem?_append_left (by omega), <-Zn];exact q3
   ·refine⟨_,x.1,x.2,?_⟩;have e:j=(AC cs n).2.2.length:=by omega
    rw[Zn,e];simp
theorem yD {cs:af}:(dpl cs).length=12:=(D7 12).2.2.1
theorem GV {cs:af}{j:Int}(h0:0<=j)(h1:j<12):0<=ag (dpl cs) j 0/\ag (dpl cs) j 0<10000/\(dpl cs).getD j.toNat []=[.i (ag (dpl cs) j 0)]:=by
 obtain⟨x,q1,q2,q3⟩:=(D7 (cs:=cs) 12).2.2.2 j.toNat (by omega);have e:ag (dpl cs) j 0=x:=by unfold ag dpl;rw[q3];rfl
 rw[e];exact⟨q1,q2,q3⟩
theorem Oj {cs:af}:Rw [tI] (dpl cs):=by
 refine⟨by rw[yD];decide,fun e he=>?_⟩;obtain⟨j,hj⟩:=List.getElem?_of_mem he;have hl:j<12:=by rw[<-yD (cs:=cs)];exact(List.getElem?_eq_some_iff.1 hj).1
 obtain⟨h1,h2,h3⟩:=GV (cs:=cs) (j:=j) (by omega) (by omega);rw[ZJ,Zn,hj]at h3;have h3:e=_:=h3;rw[h3];have hh:XI Za (ag (dpl cs) (j:Int) 0):=by show-9223372036854775808<=_/\_<=(9223372036854775807:Int);omega
 exact⟨⟨rfl,hh⟩,trivial⟩
end Go.V
namespace Go.V
end Go.V
namespace Go.V
theorem Aw {a b:af}:av (a++b)=av a+av b:=by unfold av;rw[eh,Zf];omega
end Go.V
namespace Go.V
def slN (k:Int):Int:=if inR k 0 3=true then 16/clsSz k else 0
theorem N8 {k:Int}(h:inR k 0 3=true):k=0\/k=1\/k=2\/k=3:=by have:=bi.1 h;omega
theorem lT {k:Int}(h:inR k 0 3=true):1<=clsSz k/\clsSz k<=8/\2<=slN k/\slN k<=16/\slN k*clsSz k=16:=by
 rcases N8 h with rfl|rfl|rfl|rfl<;>decide
theorem IP {k:Int}(h:inR k 0 3=true):bO .quo Za 16 (clsSz k)=slN k:=by
 rcases N8 h with rfl|rfl|rfl|rfl<;>decide
theorem IQ {k:Int}(h:inR k 0 3=false):slN k=0:=by unfold slN;rw[h];rfl
def bmOk (n b:Int):Bool:=inR n 1 16&&inR b 0 (2^n.toNat-1)
theorem abw {n:Int}(h:inR n 1 16=true):bO .sub Za (IN .shl Za 1 n) 1=2^n.toNat-1/\bO .sub Za (IN .shl Za 1 (Nh .u64 n)) 1=2^n.toNat-1/\0<=Nh .u64 n:=by
 have q:=bi.1 h;have:n=1\/n=2\/n=3\/n=4\/n=5\/n=6\/n=7\/n=8\/n=9\/n=10\/n=11\/n=12\/n=13\/n=14\/n=15\/n=16:=by omega
 rcases this with rfl|rfl|rfl|rfl|rfl|rfl|rfl|rfl|rfl|rfl|rfl|rfl|rfl|rfl|rfl|rfl<;>decide
theorem RA {n b:Int}(h:inR n 1 16=false):bmOk n b=false:=by unfold bmOk;rw[h];rfl
theorem NL {n b:Int}(h:inR n 1 16=true):bmOk n b=inR b 0 (2^n.toNat-1):=by unfold bmOk;rw[h];rfl
def spOk (p k b:Int):Bool:=inR p 0 31&&bmOk (slN k) b
theorem Gy {k b:Int}(h:inR k 0 3=false):bmOk (slN k) b=false:=by rw[IQ h];rfl
theorem Qv {p k b:Int}(h:inR p 0 31=false):spOk p k b=false:=by unfold spOk;rw[h];rfl
theorem Qw {p k b:Int}(h:inR k 0 3=false):spOk p k b=false:=by unfold spOk;rw[Gy h,Yf]
theorem Qy {p k b:Int}(h:inR p 0 31=true):spOk p k b=bmOk (slN k) b:=by unfold spOk;rw[h];rfl
theorem mg {p k b:Int}(h:spOk p k b=true):0<=p/\p<=31/\inR k 0 3=true/\bmOk (slN k) b=true:=by
 unfold spOk at h;simp only[Zc,bi]at h;refine⟨h.1.1,h.1.2,?_,h.2⟩;cases q:inR k 0 3
 ·rw[Gy q]at h;exact absurd h.2 (by decide)
 ·rfl
theorem acw {k b:Int}(h:bmOk (slN k) b=true):0<=b/\b<=65535:=by
 unfold bmOk at h;simp only[Zc,bi]at h;have hn:(slN k).toNat<=16:=by omega
 have hp:(2:Int)^(slN k).toNat<=2^16:=by
  have:=Nat.pow_le_pow_right (show 0<2 by omega) hn
  exact_mod_cast this
 omega
def pfN (s:Int):Int:=if inR s 9 1000=true then(s+15)/16 else 0
theorem PZ {s:Int}(h:inR s 9 1000=true):bO .quo Za (bO .sub Za (bO .add Za s 16) 1) 16=pfN s:=by
 have q:=bi.1 h;have e1:bO .add Za s 16=s+16:=cE (by omega);have e2:bO .sub Za (s+16) 1=s+16-1:=f9 (by omega);unfold pfN;rw[VL h,e1,e2,Bb (by omega) (by omega) (by omega),show s+16-1=s+15 from by omega]
theorem aaS {s:Int}(h:inR s 9 1000=false):pfN s=0:=by unfold pfN;rw[h];rfl
theorem o7 {s:Int}(h:inR s 9 1000=true):1<=pfN s/\pfN s<=63/\s<=pfN s*16:=by
 have q:=bi.1 h;unfold pfN;rw[VL h];omega
def lgOk (p n s:Int):Bool:=inR s 9 1000&&(decide (n=pfN s)&&inR p 0 (32-n))
theorem Pn {p n s:Int}(h:inR s 9 1000=false):lgOk p n s=false:=by unfold lgOk;rw[h];rfl
theorem Po {p n s:Int}(h:n≠pfN s):lgOk p n s=false:=by unfold lgOk;rw[VJ h];simp
theorem Pp {p n s:Int}(h:inR s 9 1000=true)(h2:n=pfN s):lgOk p n s=inR p 0 (32-n):=by unfold lgOk;rw[h,VI h2];rfl
theorem mL {p n s:Int}(h:lgOk p n s=true):inR s 9 1000=true/\n=pfN s/\0<=p/\p<=32-n:=by
 unfold lgOk at h;simp only[Zc,VK,bi]at h;exact⟨bi.2 h.1,h.2.1,h.2.2⟩
def BX (p k b a:Int):Bool:=spOk p k b&&inR a (p*16) (p*16+15)
def saS (p k b a:Int):Int:=if BX p k b a=true then(a-p*16)/clsSz k else-1
def saO (p k b a:Int):Int:=if BX p k b a=true then(a-p*16)%clsSz k else-1
theorem IF {p k b a:Int}(h:BX p k b a=false):saS p k b a= -1/\saO p k b a= -1:=by unfold saS saO;rw[h];exact⟨rfl,rfl⟩
theorem wd {p k b a:Int}(h:BX p k b a=true):saS p k b a=(a-p*16)/clsSz k/\saO p k b a=(a-p*16)%clsSz k:=by unfold saS saO;rw[VL h,VL h];exact⟨rfl,rfl⟩
theorem si {p k b a:Int}:BX p k b a=true↔spOk p k b=true/\p*16<=a/\a<=p*16+15:=by unfold BX;rw[Zc,bi]
def JA (p k b s:Int):Bool:=spOk p k b&&inR s 0 (slN k-1)
def aaI (p k b s:Int):Int:=if JA p k b s=true then p*16+s*clsSz k else-1
def lhB (p n s a:Int):Bool:=lgOk p n s&&inR a (p*16) (p*16+s-1)
def loI (p n s a:Int):Int:=if lhB p n s a=true then a-p*16 else-1
theorem Pq {p n s a:Int}(h:lgOk p n s=false):lhB p n s a=false:=by unfold lhB;rw[h];rfl
theorem Pu {p n s a:Int}(h:lgOk p n s=true):lhB p n s a=inR a (p*16) (p*16+s-1):=by unfold lhB;rw[h];rfl
theorem aaf {p n s a:Int}(h:lhB p n s a=false):loI p n s a= -1:=by unfold loI;rw[h];rfl
theorem Pv {p n s a:Int}(h:lhB p n s a=true):loI p n s a=a-p*16:=by unfold loI;rw[VL h]
theorem C4 {a b:Int}(h: -9223372036854775808<=a*b/\a*b<=9223372036854775807):bO .mul Za a b=a*b:=YZ _ h
theorem aaT {p:Int}(h:0<=p/\p<=31):bO .mul Za p 16=p*16/\bO .sub Za (bO .add Za (p*16) 16) 1=p*16+15:=by
 have e1:bO .mul Za p 16=p*16:=C4 (by omega);have e2:bO .add Za (p*16) 16=p*16+16:=cE (by omega);have e3:bO .sub Za (p*16+16) 1=p*16+16-1:=f9 (by omega);rw[e1,e2,e3];omega
theorem Li {p k b a:Int}(h:spOk p k b=true)(h1:inR a (p*16) (p*16+15)=true):saS p k b a=bO .quo Za (bO .sub Za a (p*16)) (clsSz k)/\saO p k b a=bO .rem Za (bO .sub Za a (p*16)) (clsSz k):=by
 have t:=mg h;have q:=bi.1 h1;have c:=lT t.2.2.1;have y:=wd (si.2 ⟨h,q⟩);have e:bO .sub Za a (p*16)=a-p*16:=f9 (by omega);rw[y.1,y.2,e,Bb (by omega) (by omega) (by omega),Bf (by omega)];exact⟨rfl,rfl⟩
theorem abn {p k b a:Int}(h:spOk p k b=false):BX p k b a=false:=by unfold BX;rw[h];rfl
theorem abo {p k b a:Int}(h:inR a (p*16) (p*16+15)=false):BX p k b a=false:=by unfold BX;rw[h,Yf]
theorem NG {p k b s:Int}(h:spOk p k b=true)(h1:inR s 0 (slN k-1)=true):bO .add Za (bO .mul Za p 16) (bO .mul Za s (clsSz k))=aaI p k b s:=by
 have t:=mg h;have c:=lT t.2.2.1;have q:=bi.1 h1;have m1:0<=s*clsSz k:=Int.mul_nonneg q.1 (by omega);have m2:s*clsSz k<=(slN k-1)*clsSz k:=Int.mul_le_mul_of_nonneg_right q.2 (by omega);have m3:(slN k-1)*clsSz k=16-clsSz k:=by rw[Int.sub_mul,c.2.2.2.2,Int.one_mul]
 have e:bO .mul Za s (clsSz k)=s*clsSz k:=C4 (by omega);rw[(aaT ⟨t.1,t.2.1⟩).1,e];unfold aaI JA;rw[h,h1];exact cE (by omega)
theorem LR {p k b s:Int}(h:spOk p k b=false\/inR s 0 (slN k-1)=false):aaI p k b s= -1:=by
 unfold aaI JA;rcases h with h|h
 ·rw[h];rfl
 ·rw[h,Yf];rfl
theorem My {p n s:Int}(h:lgOk p n s=true):bO .mul Za p 16=p*16/\bO .add Za (bO .mul Za p 16) s=p*16+s/\bO .sub Za (bO .add Za (bO .mul Za p 16) s) 1=p*16+s-1:=by
 have t:=mL h;have b:=o7 t.1;have q:=bi.1 t.1;have e1:bO .mul Za p 16=p*16:=C4 (by omega);have e2:bO .add Za (p*16) s=p*16+s:=cE (by omega);have e3:bO .sub Za (p*16+s) 1=p*16+s-1:=f9 (by omega);rw[e1,e2,e3];exact⟨rfl,rfl,rfl⟩
theorem Ps {p n s a:Int}:lhB p n s a=true↔lgOk p n s=true/\p*16<=a/\a<=p*16+s-1:=by unfold lhB;rw[Zc,bi]
theorem aae {p n s a:Int}(h:lhB p n s a=true):bO .sub Za a (bO .mul Za p 16)=loI p n s a:=by
 obtain⟨h1,h2,h3⟩:=Ps.1 h;have t:=mL h1;have b:=o7 t.1;have q:=bi.1 t.1;rw[(My h1).1,Pv h];exact f9 (by omega)
end Go.V
namespace Go.V
def kK (l:List Int):af:=l.map fun x=>[.i x]
theorem jX {l:List Int}:(kK l).length=l.length:=by unfold kK;rw[List.length_map]
theorem zm {a b:List Int}:kK (a++b)=kK a++kK b:=by unfold kK;rw[List.map_append]
theorem IE {l:List Int}(h:∀ x∈l,-9223372036854775808<=x/\x<=9223372036854775807)(hl:l.length<=70368744177664):Rw [tI] (kK l):=by
 refine⟨by rw[jX];unfold maxLen;omega,fun e he=>?_⟩;obtain⟨x,hx,rfl⟩:=List.mem_map.1 he;have q:=h x hx;exact⟨⟨rfl,by show-9223372036854775808<=x/\x<=(9223372036854775807:Int);exact q⟩,trivial⟩
def M9 (sp:af)(i:Int):Bool:=spOk (ag sp i 0) (ag sp i 1) (ag sp i 2)
def Pm (lg:af)(i:Int):Bool:=lgOk (ag lg i 0) (ag lg i 1) (ag lg i 2)
def mw (sp:af):Nat->List Int
 |0=>[]
 |n+1=>mw sp n++[ag sp n 0]
def tg (p:Int):Nat->List Int
 |0=>[]
 |n+1=>tg p n++[p+n]
def nG (lg:af):Nat->List Int
 |0=>[]
 |n+1=>nG lg n++tg (ag lg n 0) (ag lg n 1).toNat
def A9 (sp lg:af):List Int:=mw sp sp.length++nG lg lg.length
def layOk (sp lg:af):Bool:=(dt (M9 sp) sp.length&&dt (Pm lg) lg.length)&&decide (A9 sp lg).Nodup
theorem zu {sp:af}{i:Int}(h:0<=i):mw sp (i+1).toNat=mw sp i.toNat++[ag sp i 0]:=by
 rw[show(i+1).toNat=i.toNat+1 from by omega,mw,Zr h]
theorem CX {lg:af}{i:Int}(h:0<=i):nG lg (i+1).toNat=nG lg i.toNat++tg (ag lg i 0) (ag lg i 1).toNat:=by
 rw[show(i+1).toNat=i.toNat+1 from by omega,nG,Zr h]
theorem Dh {p i:Int}(h:0<=i):tg p (i+1).toNat=tg p i.toNat++[p+i]:=by
 rw[show(i+1).toNat=i.toNat+1 from by omega,tg,Zr h]
theorem E0 {sp:af}:∀ (m n:Nat),n<=m->∃ r,mw sp m=mw sp n++r
 |0,n,h=>⟨[],by rw[show n=0 by omega];rfl⟩
 | m+1,n,h=>by
   by_cases c:n=m+1
   ·subst c;exact⟨[],by simp⟩
   ·obtain⟨r,e⟩:=E0 (sp:=sp) m n (by omega);exact⟨r++[ag sp m 0],by rw[mw,e,Zs]⟩
theorem EK {p:Int}:∀ (m n:Nat),n<=m->∃ r,tg p m=tg p n++r
 |0,n,h=>⟨[],by rw[show n=0 by omega];rfl⟩
 | m+1,n,h=>by
   by_cases c:n=m+1
   ·subst c;exact⟨[],by simp⟩
   ·obtain⟨r,e⟩:=EK (p:=p) m n (by omega);exact⟨r++[p+m],by rw[tg,e,Zs]⟩
theorem Ev {lg:af}:∀ (m n:Nat),n<=m->∃ r,nG lg m=nG lg n++r
 |0,n,h=>⟨[],by rw[show n=0 by omega];rfl⟩
 | m+1,n,h=>by
   by_cases c:n=m+1
   ·subst c;exact⟨[],by simp⟩
   ·obtain⟨r,e⟩:=Ev (lg:=lg) m n (by omega);exact⟨r++tg (ag lg m 0) (ag lg m 1).toNat,by rw[nG,e,Zs]⟩
theorem dup {a b l:List Int}{x:Int}(h:l=a++x::b)(hm:x∈a):¬ l.Nodup:=by
 rw[h,Zy];rintro⟨_,_,q⟩;exact q x hm x (by simp) rfl
theorem qE {a:List Int}{x:Int}(h:a.Nodup)(hx:x∉a):(a++[x]).Nodup:=by
 rw[Zy];exact⟨h,by simp,fun y hy z hz e=>by simp at hz;subst hz;subst e;exact hx hy⟩
theorem Kx {sp lg:af}{i:Int}(h0:0<=i)(h1:i<sp.length)(h:spOk (ag sp i 0) (ag sp i 1) (ag sp i 2)=false):layOk sp lg=false:=by
 unfold layOk;rw[cN h0 h1 h];rfl
theorem Ky {sp lg:af}{i:Int}(h0:0<=i)(h1:i<lg.length)(h:lgOk (ag lg i 0) (ag lg i 1) (ag lg i 2)=false):layOk sp lg=false:=by
 unfold layOk;rw[cN (p:=Pm lg) h0 h1 h,Yf];rfl
theorem Kz {sp lg:af}{i:Int}(h0:0<=i)(h1:i<sp.length)(h:ag sp i 0∈mw sp i.toNat):layOk sp lg=false:=by
 obtain⟨r,e⟩:=E0 (sp:=sp) sp.length (i+1).toNat (by omega);rw[zu h0,Zs]at e;have:¬ (A9 sp lg).Nodup:=dup (a:=mw sp i.toNat) (b:=r++nG lg lg.length) (x:=ag sp i 0) (by unfold A9;rw[e,Zs];rfl) h;unfold layOk;rw[VJ this,Yf]
theorem KA {sp lg:af}{i k:Int}(h0:0<=i)(h1:i<lg.length)(k0:0<=k)(k1:k<ag lg i 1)(h:ag lg i 0+k∈mw sp sp.length++nG lg i.toNat++tg (ag lg i 0) k.toNat):layOk sp lg=false:=by
 obtain⟨r,e⟩:=Ev (lg:=lg) lg.length (i+1).toNat (by omega);obtain⟨r2,e2⟩:=EK (p:=ag lg i 0) (ag lg i 1).toNat (k+1).toNat (by omega);rw[CX h0,e2,Dh k0]at e;have:¬ (A9 sp lg).Nodup:=dup (a:=mw sp sp.length++nG lg i.toNat++tg (ag lg i 0) k.toNat) (b:=r2++r) (x:=ag lg i 0+k) (by unfold A9;rw[e];simp only[Zs];rfl) h;unfold layOk;rw[VJ this,Yf]
theorem KB {sp lg:af}{i j:Int}(h:upto (M9 sp) i)(hi:(sp.length:Int)<=i)(h2:upto (Pm lg) j)(hj:(lg.length:Int)<=j)(hn:(A9 sp lg).Nodup):layOk sp lg=true:=by
 unfold layOk;rw[cu h hi,cu h2 hj,VI hn];rfl
theorem HI {sp lg:af}(h:layOk sp lg=true):(∀ i:Int,0<=i->i<sp.length->spOk (ag sp i 0) (ag sp i 1) (ag sp i 2)=true)/\(∀ i:Int,0<=i->i<lg.length->lgOk (ag lg i 0) (ag lg i 1) (ag lg i 2)=true)/\(A9 sp lg).Nodup:=by
 unfold layOk at h;simp only[Zc,VK]at h;exact⟨ed.1 h.1.1,ed.1 h.1.2,h.2⟩
def Q8 (es:af):Prop:=∀ e∈es,∃ (k:Int) (b:Bool),e=[.i k,.v (.bool b)]
theorem vJ {k:Int}{b:Bool}{es:af}{n:Int}:dP ([.i k,.v (.bool b)]::es) n=if k=n then some (0,.bool b)else(dP es n).map fun p=>(p.1+1,p.2):=rfl
theorem oh {k:Int}{b:Bool}{es:af}{n:Int}:mgbI ([.i k,.v (.bool b)]::es) n=if k=n then b else mgbI es n:=by
 unfold mgbI;rw[vJ];by_cases c:k=n
 ·rw[VL c,VL c]
 ·rw[VM c,VM c];cases dP es n with
  |none=>rfl
  |some p=>obtain⟨j,v⟩:=p;cases v<;>rfl
theorem EA {k:Int}{b x:Bool}{es:af}{n:Int}:mr ([.i k,.v (.bool b)]::es) n (.v (.bool x))=if k=n then[.i n,.v (.bool x)]::es else[.i k,.v (.bool b)]::mr es n (.v (.bool x)):=by
 unfold mr;rw[vJ];by_cases c:k=n
 ·rw[VL c,VL c];rfl
 ·rw[VM c,VM c];cases dP es n with
  |none=>rfl
  |some p=>rfl
theorem mub {x:Bool}{n:Int}:∀ {es:af},Q8 es->Q8 (mr es n (.v (.bool x)))/\∀ m,mgbI (mr es n (.v (.bool x))) m=if m=n then x else mgbI es m
 | [],_=>by
   refine⟨fun e he=>?_,fun m=>?_⟩
   ·have:e=[.i n,.v (.bool x)]:=by simpa[mr,dP]using he
    exact⟨n,x,this⟩
   ·show mgbI [[.i n,.v (.bool x)]] m=_;rw[oh];by_cases c:m=n
    ·rw[VL c.symm,VL c]
    ·rw[VM (fun e=>c e.symm),VM c]
 | e::es,h=>by
   obtain⟨k,b,rfl⟩:=h e (by simp);have h':Q8 es:=fun e he=>h e (by simp[he])
   obtain⟨a1,a2⟩:=mub (x:=x) (n:=n) h';rw[EA];by_cases c:k=n
   ·rw[VL c];refine⟨fun e he=>?_,fun m=>?_⟩
    ·rcases Zk.1 he with rfl|he;exact⟨n,x,rfl⟩;exact h' e he
    ·rw[oh,oh];by_cases d:m=n
     ·rw[VL d.symm,VL d]
     ·rw[VM (fun e=>d e.symm),VM d,VM (fun e=>d (by rw[<-e,c]))]
   ·rw[VM c];refine⟨fun e he=>?_,fun m=>?_⟩
    ·rcases Zk.1 he with rfl|he;exact⟨k,b,rfl⟩;exact a1 e he
    ·rw[oh,oh,a2 m];by_cases d:k=m
     ·rw[VL d,VL d,VM (fun e=>c (d.trans e))]
     ·rw[VM d,VM d]
def muT (es:af)(n:Int):af:=mr es n (.v (.bool true))
structure o9 (es:af)(l:List Int):Prop where
 wf:Q8 es
 at_:∀ m,mgbI es m=true↔m∈l
theorem Dq:o9 [] []:=⟨(fun e he=>by cases he),fun m=>by simp[mgbI,dP]⟩
theorem uw {es:af}{l:List Int}{n:Int}(h:o9 es l):o9 (mr es n (.v (.bool true))) (l++[n]):=by
 have q:=mub (x:=true) (n:=n) h.wf;refine⟨q.1,fun m=>?_⟩;rw[q.2 m];by_cases c:m=n
 ·rw[VL c];simp[c]
 ·rw[VM c,h.at_ m];simp[c]
def one (x:Int):af:=[[.i x]]
structure LsP (sp:af)(i:Int)(o:af):Prop where
 e:o=kK (mw sp i.toNat)
 nd:(mw sp i.toNat).Nodup
 ok:upto (M9 sp) i
 b:∀ x∈mw sp i.toNat,0<=x/\x<=64
structure LlP (sp lg:af)(j:Int)(o:af):Prop where
 e:o=kK (mw sp sp.length++nG lg j.toNat)
 nd:(mw sp sp.length++nG lg j.toNat).Nodup
 oks:upto (M9 sp) sp.length
 ok:upto (Pm lg) j
 b:∀ x∈mw sp sp.length++nG lg j.toNat,0<=x/\x<=64
 l:(nG lg j.toNat).length<=64*j.toNat
structure LkP (sp lg:af)(j k:Int)(o:af):Prop where
 e:o=kK (mw sp sp.length++nG lg j.toNat++tg (ag lg j 0) k.toNat)
 nd:(mw sp sp.length++nG lg j.toNat++tg (ag lg j 0) k.toNat).Nodup
 oks:upto (M9 sp) sp.length
 ok:upto (Pm lg) j
 b:∀ x∈mw sp sp.length++nG lg j.toNat++tg (ag lg j 0) k.toNat,0<=x/\x<=64
 l:(nG lg j.toNat).length<=64*j.toNat
theorem ad2 {p n s k:Int}(h:lgOk p n s=true)(k0:0<=k)(k1:k<n):0<=p/\p+k<=32/\bO .add Za p k=p+k/\1<=n/\n<=32:=by
 have t:=mL h;have b:=o7 t.1;have e:bO .add Za p k=p+k:=cE (by omega);exact⟨by omega,by omega,e,by omega,by omega⟩
end Go.V
namespace Go.V
structure Nu (sp:af)(i:Int)(es:af):Prop where
 s:o9 es (mw sp i.toNat)
 nd:(mw sp i.toNat).Nodup
 ok:upto (M9 sp) i
structure Q5 (sp lg:af)(j:Int)(es:af):Prop where
 s:o9 es (mw sp sp.length++nG lg j.toNat)
 nd:(mw sp sp.length++nG lg j.toNat).Nodup
 oks:upto (M9 sp) sp.length
 ok:upto (Pm lg) j
structure Ns (sp lg:af)(j k:Int)(es:af):Prop where
 s:o9 es (mw sp sp.length++nG lg j.toNat++tg (ag lg j 0) k.toNat)
 nd:(mw sp sp.length++nG lg j.toNat++tg (ag lg j 0) k.toNat).Nodup
 oks:upto (M9 sp) sp.length
 ok:upto (Pm lg) j
theorem IJ {es:af}{l:List Int}{n:Int}(h:o9 es l)(e:mgbI es n=false):n∉l:=fun m=>by rw[(h.at_ n).2 m]at e;cases e
theorem adL {sp:af}:Nu sp 0 []:=⟨Dq,List.nodup_nil,bV⟩
theorem O9 {sp lg es:af}{i:Int}(h:Nu sp i es)(h0:0<=i)(h1:i<sp.length)(hh:mgbI es (ag sp i 0)=true):layOk sp lg=false:=
 Kz h0 h1 ((h.s.at_ _).1 hh)
theorem TT {sp es:af}{i:Int}(h:Nu sp i es)(h0:0<=i)(hs:spOk (ag sp i 0) (ag sp i 1) (ag sp i 2)=true)(hh:mgbI es (ag sp i 0)=false):Nu sp (i+1) (muT es (ag sp i 0)):=
 ⟨by rw[zu h0];exact uw h.s,by rw[zu h0];exact qE h.nd (IJ h.s hh),bN h.ok hs⟩
theorem Pb {sp lg es:af}{i:Int}(h:Nu sp i es)(h1:i<=sp.length)(h2:(sp.length:Int)<=i):Q5 sp lg 0 es:=by
 have e:i.toNat=sp.length:=by omega
 have ei:i=sp.length:=by omega
 have q1:=h.s;have q2:=h.nd;have q3:=h.ok;rw[e]at q1 q2;rw[ei]at q3;exact⟨by simpa[nG]using q1,by simpa[nG]using q2,q3,bV⟩
theorem adK {sp lg es:af}{j:Int}(h:Q5 sp lg j es):Ns sp lg j 0 es:=
 ⟨by simpa[tg]using h.s,by simpa[tg]using h.nd,h.oks,h.ok⟩
theorem O3 {sp lg es:af}{j k:Int}(h:Ns sp lg j k es)(h0:0<=j)(h1:j<lg.length)(k0:0<=k)(k1:k<ag lg j 1)(hh:mgbI es (ag lg j 0+k)=true):layOk sp lg=false:=
 KA h0 h1 k0 k1 ((h.s.at_ _).1 hh)
theorem TO {sp lg es:af}{j k:Int}(h:Ns sp lg j k es)(k0:0<=k)(hh:mgbI es (ag lg j 0+k)=false):Ns sp lg j (k+1) (muT es (ag lg j 0+k)):=by
 have q:∀ A:List Int,A++tg (ag lg j 0) (k+1).toNat=A++tg (ag lg j 0) k.toNat++[ag lg j 0+k]:=fun A=>by rw[Dh k0,Zs]
 exact⟨by rw[q];exact uw h.s,by rw[q];exact qE h.nd (IJ h.s hh),h.oks,h.ok⟩
theorem O4 {sp lg es:af}{j k:Int}(h:Ns sp lg j k es)(j0:0<=j)(hl:lgOk (ag lg j 0) (ag lg j 1) (ag lg j 2)=true)(k1:k<=ag lg j 1)(k2:ag lg j 1<=k):Q5 sp lg (j+1) es:=by
 have ek:k.toNat=(ag lg j 1).toNat:=by omega
 have q1:=h.s;have q2:=h.nd;rw[ek,Zs, <-CX j0]at q1 q2;exact⟨q1,q2,h.oks,bN h.ok hl⟩
theorem O5 {sp lg es:af}{j:Int}(h:Q5 sp lg j es)(j1:j<=lg.length)(j2:(lg.length:Int)<=j):layOk sp lg=true:=by
 have e:j.toNat=lg.length:=by omega
 have q:=h.nd;rw[e]at q;exact KB h.oks (Yn _) h.ok j2 q
theorem aap {b:Bool}(h:(!b)=false):b=true:=by cases b<;>simp_all
theorem aaq {b:Bool}(h:(!b)=true):b=false:=by cases b<;>simp_all
end Go.V
namespace Go.V
def ya (sp:af)(a i:Int):Bool:=decide (0<=saS (ag sp i 0) (ag sp i 1) (ag sp i 2) a)
def xU (lg:af)(a i:Int):Bool:=lhB (ag lg i 0) (ag lg i 1) (ag lg i 2) a
def fU (sp:af)(a:Int):Int:=cQ (ya sp a) sp.length
def kN (lg:af)(a:Int):Int:=cQ (xU lg a) lg.length
def wT (sp:af)(a i:Int):Int:=saS (ag sp i 0) (ag sp i 1) (ag sp i 2) a
def Lp (sp:af)(a i:Int):Int:=saO (ag sp i 0) (ag sp i 1) (ag sp i 2) a
def Re (lg:af)(a i:Int):Int:=loI (ag lg i 0) (ag lg i 1) (ag lg i 2) a
def dnK (sp lg:af)(a:Int):Int:=if 0<=fU sp a then(if hsB (ag sp (fU sp a) 2) (wT sp a (fU sp a))then 1 else 2)else if 0<=kN lg a then 3 else 0
def dnI (sp lg:af)(a:Int):Int:=if 0<=fU sp a then fU sp a else if 0<=kN lg a then kN lg a else 0
def dnS (sp:af)(a:Int):Int:=if 0<=fU sp a then wT sp a (fU sp a)else 0
def dnO (sp lg:af)(a:Int):Int:=if 0<=fU sp a then Lp sp a (fU sp a)else if 0<=kN lg a then Re lg a (kN lg a)else 0
def dzK (sp lg:af)(a:Int):Int:=if layOk sp lg then dnK sp lg a else 0
def dzI (sp lg:af)(a:Int):Int:=if layOk sp lg then dnI sp lg a else 0
def dzS (sp lg:af)(a:Int):Int:=if layOk sp lg then dnS sp a else 0
def dzO (sp lg:af)(a:Int):Int:=if layOk sp lg then dnO sp lg a else 0
theorem aez {sp:af}{a i:Int}(h:upto (cK (ya sp a)) i)(hs:saS (ag sp i 0) (ag sp i 1) (ag sp i 2) a<0):upto (cK (ya sp a)) (i+1):=
 bN h (by unfold cK ya;rw[VJ (by omega)];rfl)
theorem adZ {lg:af}{a i:Int}(h:upto (cK (xU lg a)) i)(hs:lhB (ag lg i 0) (ag lg i 1) (ag lg i 2) a=false):upto (cK (xU lg a)) (i+1):=
 bN h (by unfold cK xU;rw[hs];rfl)
theorem Mh {sp:af}{a i:Int}(h:upto (cK (ya sp a)) i)(h0:0<=i)(h1:i<sp.length)(hs:0<=saS (ag sp i 0) (ag sp i 1) (ag sp i 2) a):fU sp a=i:=
 du h h0 h1 (VI hs)
theorem Mi {sp:af}{a i:Int}(h:upto (cK (ya sp a)) i)(h1:(sp.length:Int)<=i):fU sp a= -1:=d7 h h1
theorem SH {lg:af}{a i:Int}(h:upto (cK (xU lg a)) i)(h0:0<=i)(h1:i<lg.length)(hs:lhB (ag lg i 0) (ag lg i 1) (ag lg i 2) a=true):kN lg a=i:=
 du h h0 h1 hs
theorem SJ {lg:af}{a i:Int}(h:upto (cK (xU lg a)) i)(h1:(lg.length:Int)<=i):kN lg a= -1:=d7 h h1
def owL (k i s o:Int):List DV:=[DV.agg [.i k,.i i,.i s,.i o]]
def L8 (sp lg:af)(a:Int):List DV:=owL (dnK sp lg a) (dnI sp lg a) (dnS sp a) (dnO sp lg a)
theorem ow1 {sp lg:af}{a i:Int}(h:upto (cK (ya sp a)) i)(h0:0<=i)(h1:i<sp.length)(hs:0<=saS (ag sp i 0) (ag sp i 1) (ag sp i 2) a)(hh:hsB (ag sp i 2) (saS (ag sp i 0) (ag sp i 1) (ag sp i 2) a)=true):
 owL 1 i (saS (ag sp i 0) (ag sp i 1) (ag sp i 2) a) (saO (ag sp i 0) (ag sp i 1) (ag sp i 2) a)=L8 sp lg a:=by
 have e:=Mh h h0 h1 hs;unfold L8 dnK dnI dnS dnO wT Lp;rw[e,VL h0,VL h0,VL h0,VL h0,hh];rfl
theorem ow2 {sp lg:af}{a i:Int}(h:upto (cK (ya sp a)) i)(h0:0<=i)(h1:i<sp.length)(hs:0<=saS (ag sp i 0) (ag sp i 1) (ag sp i 2) a)(hh:hsB (ag sp i 2) (saS (ag sp i 0) (ag sp i 1) (ag sp i 2) a)=false):
 owL 2 i (saS (ag sp i 0) (ag sp i 1) (ag sp i 2) a) (saO (ag sp i 0) (ag sp i 1) (ag sp i 2) a)=L8 sp lg a:=by
 have e:=Mh h h0 h1 hs;unfold L8 dnK dnI dnS dnO wT Lp;rw[e,VL h0,VL h0,VL h0,VL h0,hh];rfl
theorem ow3 {sp lg:af}{a i j:Int}(h:upto (cK (ya sp a)) i)(h1:(sp.length:Int)<=i)(g:upto (cK (xU lg a)) j)(j0:0<=j)(j1:j<lg.length)(hh:lhB (ag lg j 0) (ag lg j 1) (ag lg j 2) a=true):
 owL 3 j 0 (loI (ag lg j 0) (ag lg j 1) (ag lg j 2) a)=L8 sp lg a:=by
 have e:=Mi h h1;have f:=SH g j0 j1 hh;have n:¬ (0:Int)<= -1:=by omega
 unfold L8 dnK dnI dnS dnO Re;rw[e,f,VM n,VM n,VM n,VM n,VL j0,VL j0,VL j0]
theorem ow4 {sp lg:af}{a i j:Int}(h:upto (cK (ya sp a)) i)(h1:(sp.length:Int)<=i)(g:upto (cK (xU lg a)) j)(j1:(lg.length:Int)<=j):
 owL 0 0 0 0=L8 sp lg a:=by
 have e:=Mi h h1;have f:=SJ g j1;have n:¬ (0:Int)<= -1:=by omega
 unfold L8 dnK dnI dnS dnO;rw[e,f,VM n,VM n,VM n,VM n,VM n,VM n,VM n]
end Go.V
namespace Go.V
def HO (sp lg:af)(a:Int):Bool:=decide (dzO sp lg a=0)&&(decide (dzK sp lg a=1)||decide (dzK sp lg a=3))
def Ph (sp lg:af):Nat->af
 |0=>[]
 |n+1=>Ph sp lg n++(if HO sp lg n then[[.i n]]else[])
def BW (sp lg:af):af:=if layOk sp lg then Ph sp lg 512 else[]
structure LaP (sp lg:af)(i:Int)(o:af):Prop where
 e:o=Ph sp lg i.toNat
 l:o.length<=i.toNat
 y:0<i->layOk sp lg=true
theorem zk {a b:af}(h:a=b):[DV.one (.s 1 a)]=[DV.one (.s 1 b)]:=by rw[h]
end Go.V