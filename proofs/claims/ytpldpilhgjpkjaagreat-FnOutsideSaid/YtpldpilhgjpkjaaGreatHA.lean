/- Plain facts. -/
import Derived.Test.YtpldpilhgjpkjaaGreatVE
set_option linter.all false
open Go
open BitVec renaming ofInt->ZH
open Bool renaming and_eq_true->Zc,and_false->Z4
open Int renaming toNat_of_nonneg->Zp,tmod_eq_emod_of_nonneg->Wx,toNat_natCast->ZE,le_trans->XZ,le_refl->Yd
open IntKind renaming has->Xy,wrap->YC,bits->Wy,signed->Wz,i64->Za
open IntWalk renaming i64_in->YT
open List renaming range->Zj,mem_range->Ya,length_append->Ze,mem_cons->Zk,length_cons->Zr,getD_eq_getElem?_getD->Zo,getElem?_eq_getElem->Zs,take->Yo,drop->YD,find?_range_eq_some->Xk,find?_range_eq_none->XY,mem_append->Zg,replicate->Zl,length_replicate->YV,append_assoc->Zi,nodup_append->Zu,nodup_nil->ZK
open Nat renaming le_refl->Zf,le_trans->ZN
open Value renaming int->Zq
namespace Go.V
theorem acV {n:Int}(h:Xy Za n): -9223372036854775808<=n/\n<=9223372036854775807:=h
theorem cJ {i:Int}(h0:0<=i)(h1:i<9223372036854775807):bK .add Za i 1=i+1:=bT (by omega)
def inR (x a b:Int):Bool:=decide (a<=x)&&decide (x<=b)
theorem bz {x a b:Int}:inR x a b=true↔a<=x/\x<=b:=by simp[inR]
theorem vK {x a b:Int}:inR x a b=false↔x<a\/b<x:=by
 cases h:inR x a b
 ·simp only[true_iff];unfold inR at h;simp only[Bool.and_eq_false_iff,decide_eq_false_iff_not]at h;omega
 ·rw[bz]at h;constructor
  ·intro q;cases q
  ·omega
def cH (p:Int->Bool)(n:Nat):Bool:=(Zj n).all fun j=>p (j:Int)
def upto (p:Int->Bool)(i:Int):Prop:=∀ j:Int,0<=j->j<i->p j=true
theorem bD {p:Int->Bool}:upto p 0:=fun j h0 h1=>absurd h1 (by omega)
theorem aU {p:Int->Bool}{i:Int}(h:upto p i)(hp:p i=true):upto p (i+1):=fun j h0 h1=>by
 by_cases q:j=i
 ·subst q;exact hp
 ·exact h j h0 (by omega)
theorem dp {p:Int->Bool}{n:Nat}:cH p n=true↔upto p n:=by
 simp only[cH,List.all_eq_true,Ya];exact⟨fun h j h0 h1=>by have:=h j.toNat (by omega);rwa [Zp h0]at this,fun h x hx=>h x (by omega) (by omega)⟩
theorem bJ {p:Int->Bool}{n:Nat}{i:Int}(h:upto p i)(hi:(n:Int)<=i):cH p n=true:=dp.2 fun j h0 h1=>h j h0 (by omega)
theorem bP {p:Int->Bool}{n:Nat}{i:Int}(h0:0<=i)(h:i<n)(hp:p i=false):cH p n=false:=by
 cases q:cH p n
 ·rfl
 ·rw[dp.1 q i h0 h]at hp;cases hp
theorem fU {a b:Bool}(h:a=true↔b=true):a=b:=by cases a<;>cases b<;>simp_all
theorem aj {a b:Bool}(h:a=b):[DV.k a]=[DV.k b]:=by rw[h]
def kP (cs us:af)(i k:Int):Bool:=inR (ag (ax cs i 0) k 0) 0 999&&(pf us i 0||decide (ag (ax cs i 0) k 0=0))
def gu (cs us:af)(i:Int):Bool:=decide ((ax cs i 0).length=16)&&cH (kP cs us i) 16
def framesOk (cs us:af):Bool:=inR cs.length 1 32&&decide (us.length=cs.length)&&cH (gu cs us) cs.length
def nA (es:af)(fr i:Int):Bool:=inR (ag es i 0) 0 2&&decide (ag es i 0=0->ag es i 1=0)&&decide (0<ag es i 0->0<=ag es i 1/\ag es i 1<fr)
def tableOk (es:af)(fr:Int):Bool:=cH (nA es fr) es.length&&inR es.length 1 32
def s8 (es:af)(f:Int):Nat->af
 |0=>[]
 |n+1=>if ag es n 0≠0/\ag es n 1=f then s8 es f n++[[.i n]]else s8 es f n
def pagesOn (es:af)(f:Int):af:=s8 es f es.length
theorem zk {es:af}{f:Int}:∀ {n:Nat},(s8 es f n).length<=n
 |0=>Nat.zero_le _
 | n+1=>by
   have:=zk (es:=es) (f:=f) (n:=n);unfold s8;split
   ·rw[Ze];simp;omega
   ·omega
theorem Ez {es:af}{f:Int}{n:Nat}(h0:ag es n 0≠0)(h1:ag es n 1=f):s8 es f (n+1)=s8 es f n++[[.i n]]:=by rw[s8,VN ⟨h0,h1⟩]
theorem CW {es:af}{f:Int}{n:Nat}(h:ag es n 0=0\/ag es n 1≠f):s8 es f (n+1)=s8 es f n:=by rw[s8,VO (by rintro⟨a,b⟩;rcases h with q|q;exact a q;exact q b)]
theorem KX {es:af}{f i:Int}(hi:0<=i)(h0:ag es i 0≠0)(h1:ag es i 1=f):s8 es f (i+1).toNat=s8 es f i.toNat++[[.i i]]:=by
 have e:((i.toNat:Nat):Int)=i:=Zp hi;rw[show(i+1).toNat=i.toNat+1 from by omega,Ez (by rw[e];exact h0) (by rw[e];exact h1),e]
theorem IB {es:af}{f i:Int}(hi:0<=i)(h:ag es i 0=0\/ag es i 1≠f):s8 es f (i+1).toNat=s8 es f i.toNat:=by
 have e:((i.toNat:Nat):Int)=i:=Zp hi;rw[show(i+1).toNat=i.toNat+1 from by omega,CW (by rw[e];exact h)]
theorem yd {es:af}{f:Int}:(pagesOn es f).length<=es.length:=zk
def fy (es:af)(f:Int):Bool:=decide (0<(pagesOn es f).length)
theorem yZ {es:af}{f:Int}:fy es f=true↔0<(pagesOn es f).length:=by simp[fy]
theorem NZ {cs us:af}(h:inR cs.length 1 32=false):framesOk cs us=false:=by unfold framesOk;rw[h];rfl
theorem N0 {cs us:af}(h:us.length≠cs.length):framesOk cs us=false:=by unfold framesOk;rw[VL h];simp
theorem N6 {cs us:af}{i:Int}(h0:0<=i)(h1:i<cs.length)(h:(ax cs i 0).length≠16):framesOk cs us=false:=by
 unfold framesOk;rw[bP h0 h1 (by unfold gu;rw[VL h];rfl)];simp
theorem Hh {cs us:af}{i k:Int}(h0:0<=i)(h1:i<cs.length)(k0:0<=k)(k1:k<16)(h:inR (ag (ax cs i 0) k 0) 0 999=false\/pf us i 0=false/\ag (ax cs i 0) k 0≠0):framesOk cs us=false:=by
 unfold framesOk;rw[bP h0 h1 (by unfold gu;rw[bP k0 (by simpa using k1) (by unfold kP;rcases h with q|⟨q,q'⟩;rw[q];rfl;rw[q,VL q'];simp)];simp)];simp
theorem Cl {cs us:af}{i:Int}(h1:inR cs.length 1 32=true)(h2:us.length=cs.length)(h:upto (gu cs us) i)(hi:(cs.length:Int)<=i):framesOk cs us=true:=by
 unfold framesOk;rw[h1,VK h2,bJ h hi];rfl
theorem Hg {cs us:af}{i k:Int}(hl:(ax cs i 0).length=16)(h:upto (kP cs us i) k)(hk:16<=k):gu cs us i=true:=by
 unfold gu;rw[VK hl,bJ h (by simpa using hk)];rfl
theorem GQ {cs us:af}{i k:Int}(h:inR (ag (ax cs i 0) k 0) 0 999=true)(h':pf us i 0=true\/ag (ax cs i 0) k 0=0):kP cs us i k=true:=by
 unfold kP;rw[h];rcases h' with q|q
 ·rw[q];rfl
 ·rw[VK q];simp
theorem C5 {k:Nat}{a b:af}(h:a=b):[DV.one (.s k a)]=[DV.one (.s k b)]:=by rw[h]
theorem aa8 {es:af}{n i:Int}(h0:0<=i)(h1:i<es.length)(h:¬ (0<=ag es i 0/\ag es i 0<=2/\(ag es i 0=0->ag es i 1=0)/\(0<ag es i 0->0<=ag es i 1/\ag es i 1<n))):tableOk es n=false:=by
 unfold tableOk;rw[bP h0 h1];rfl;cases q:nA es n i;rfl
 ·refine absurd ?_ h;unfold nA at q;simp only[Zc,VM,bz]at q;exact⟨q.1.1.1,q.1.1.2,q.1.2,q.2⟩
theorem I9 {es:af}{n i:Int}(h:0<=ag es i 0/\ag es i 0<=2/\(ag es i 0=0->ag es i 1=0)/\(0<ag es i 0->0<=ag es i 1/\ag es i 1<n)):nA es n i=true:=by
 unfold nA;simp only[Zc,VM,bz];exact⟨⟨⟨h.1,h.2.1⟩,h.2.2.1⟩,h.2.2.2⟩
theorem Da {es:af}{n i:Int}(h:upto (nA es n) i)(hi:(es.length:Int)<=i):tableOk es n=inR es.length 1 32:=by unfold tableOk;rw[bJ h hi];rfl
theorem wB {es:af}{n:Int}(h:tableOk es n=true):1<=es.length/\es.length<=32:=by
 unfold tableOk at h;simp only[Zc,bz]at h;omega
theorem M8 {es:af}{n i:Int}(h:tableOk es n=true)(h0:0<=i)(h1:i<es.length):0<=ag es i 0/\ag es i 0<=2/\(ag es i 0=0->ag es i 1=0)/\(0<ag es i 0->0<=ag es i 1/\ag es i 1<n):=by
 unfold tableOk at h;simp only[Zc]at h;have q:=dp.1 h.1 i h0 h1;unfold nA at q;simp only[Zc,VM,bz]at q;exact⟨q.1.1.1,q.1.1.2,q.1.2,q.2⟩
theorem pE {cs us:af}(h:framesOk cs us=true):us.length=cs.length/\1<=cs.length/\cs.length<=32:=by
 unfold framesOk at h;simp only[Zc,VM,bz]at h;omega
theorem Mg {cs us:af}{i:Int}(h:framesOk cs us=true)(h0:0<=i)(h1:i<cs.length):(ax cs i 0).length=16:=by
 unfold framesOk at h;simp only[Zc,VM,bz]at h;have q:=dp.1 h.2 i h0 h1;unfold gu at q;simp only[Zc,VM]at q;exact q.1
end Go.V
namespace Go.V
theorem v9 {a n:Int}(h0:0<=a)(h1:a<=9223372036854775807)(hn:0<n):bK .quo Za a n=a/n:=by
 show YC Za (a.tdiv n)=_;rw[Int.tdiv_eq_ediv_of_nonneg h0];have h2:0<=a/n:=Int.ediv_nonneg h0 (by omega);have h3:a/n<=a:=Int.ediv_le_self _ h0;exact YT _ (by omega)
theorem wg {a n:Int}(h0:0<=a):bK .rem Za a n=a%n:=Wx h0
theorem Ee {a:af}{f:Int}:cU .gtr (pagesOn a f).length 0=fy a f:=fU (by rw[yZ];simp only[SS];omega)
theorem KM {a:af}{f:Int}(h:(pagesOn a f).length=0):fy a f=false:=by unfold fy;rw[h];rfl
theorem Av {a b a' b':Int}(h:a=a')(h':b=b'):[DV.agg [.i a,.i b]]=[DV.agg [.i a',.i b']]:=by rw[h,h']
theorem kE {a b a' b':Int}(h:a=a')(h':b=b'):[DV.j a,DV.j b]=[DV.j a',DV.j b']:=by rw[h,h']
theorem bV {a b:Int}(h:a=b):[DV.j a]=[DV.j b]:=by rw[h]
def peM (es:af)(p:Int):Int:=if 0<=p/\p<es.length then ag es p 0 else 0
def peF (es:af)(p:Int):Int:=if 0<=p/\p<es.length then ag es p 1 else 0
theorem zg {es:af}{p:Int}(h:0<=p/\p<es.length):peM es p=ag es p 0/\peF es p=ag es p 1:=by unfold peM peF;rw[VN h,VN h];exact⟨rfl,rfl⟩
theorem A9 {es:af}{p:Int}(h:¬ (0<=p/\p<es.length)):peM es p=0/\peF es p=0:=by unfold peM peF;rw[VO h,VO h];exact⟨rfl,rfl⟩
theorem aab {es:af}{n p:Int}(h:tableOk es n=true)(hm:peM es p≠0):0<=peF es p/\peF es p<n/\1<=peM es p/\peM es p<=2:=by
 by_cases q:0<=p/\p<es.length
 ·rw[(zg q).1]at hm ⊢;rw[(zg q).2];have:=M8 h q.1 q.2;omega
 ·exact absurd (A9 q).1 hm
def FE (es:af)(a:Int):Int:=if a<0 then 0 else peM es (a/16)
def Jz (es:af)(a:Int):Int:=if a<0 then 0 else peF es (a/16)
def HS (a:Int):Int:=if a<0 then 0 else a%16
theorem HT {es:af}{a:Int}(h:a<0):FE es a=0/\Jz es a=0/\HS a=0:=by unfold FE Jz HS;rw[VN h,VN h,VN h];exact⟨rfl,rfl,rfl⟩
theorem vO {es:af}{a:Int}(h:¬ a<0):FE es a=peM es (a/16)/\Jz es a=peF es (a/16)/\HS a=a%16:=by unfold FE Jz HS;rw[VO h,VO h,VO h];exact⟨rfl,rfl,rfl⟩
theorem OU {a:Int}:0<=HS a/\HS a<16:=by unfold HS;split<;>omega
end Go.V
namespace Go.V
theorem ia {fs:List Ty}{es:af}{i:Int}(h:Rw [.sl fs] es)(h0:0<=i)(h1:i<es.length):es.take (i+1).toNat=es.take i.toNat++[[.s fs.length (ax es i 0)]]:=by
 rw[show(i+1).toNat=i.toNat+1 from by omega,j7 (d:=[]) (show i.toNat<es.length by omega)];have e:=h.eta h0 h1;rw[e];rfl
theorem oO {fs:List Ty}{es:af}{i:Int}(h:Rw [.sl fs] es)(h0:0<=i)(h1:i<es.length):bj (ax es i 0)+es.length<=bj es:=by
 have e:=h.eta h0 h1;have h2:=Kb (es:=es) (n:=i.toNat) (by omega);have h3:=xr (es:=es) (n:=i.toNat+1);rw[e]at h2;have h4:mW (ko am es i 0 (zR [Ty.sl fs]))=bj (ax es i 0):=by
  show mW [.s fs.length (ax es i 0)]=_;simp only[mW,GY,bj];omega
 rw[h4]at h2;show _<=es.length+dy es;omega
theorem av {es:af}:es.length<=bj es:=Nat.le_add_right _ _
theorem hZ {es:af}{i:Int}(h:(es.length:Int)<=i):es.take i.toNat=es:=List.take_of_length_le (by omega)
def k8 (us es:af)(i:Int):Bool:=pf us i 0==fy es i
def machOk (cs us es:af):Bool:=framesOk cs us&&tableOk es cs.length&&cH (k8 us es) cs.length
theorem Ek {cs us es:af}(h:framesOk cs us=false\/tableOk es cs.length=false):machOk cs us es=false:=by
 unfold machOk;rcases h with h|h<;>rw[h]<;>simp
theorem O5 {cs us es:af}(hf:framesOk cs us=true)(h:tableOk es us.length=false):machOk cs us es=false:=by
 rw[(pE hf).1]at h;exact Ek (.inr h)
theorem H7 {cs us es:af}{i:Int}(h0:0<=i)(h1:i<cs.length)(h:pf us i 0≠fy es i):machOk cs us es=false:=by
 unfold machOk;rw[bP h0 h1 (by unfold k8;simpa using h)];simp
theorem Ej {us es:af}{i:Int}(h:pf us i 0=fy es i):k8 us es i=true:=by unfold k8;simpa using h
theorem y7 {cs us es:af}{i:Int}(h:framesOk cs us=true)(h2:tableOk es us.length=true)(hu:upto (k8 us es) i)(hi:(us.length:Int)<=i):machOk cs us es=true:=by
 rw[(pE h).1]at h2 hi;unfold machOk;rw[h,h2,bJ hu hi];rfl
theorem H8 {cs us es:af}(q:machOk cs us es=true):framesOk cs us=true/\tableOk es cs.length=true/\∀ i:Int,0<=i->i<cs.length->pf us i 0=fy es i:=by
 unfold machOk at q;simp only[Zc]at q;refine⟨q.1.1,q.1.2,fun i h0 h1=>?_⟩;have:=dp.1 q.2 i h0 h1;unfold k8 at this;simpa using this
theorem fu:∀ {rs:List af} {r:af} {n:Nat},xK rs<=n->r∈rs->bj r<=n
 | a::rs,r,n,h,hr=>by
   simp only[xK]at h;rcases Zk.1 hr with rfl|q;omega;exact fu (rs:=rs) (by omega) q
end Go.V
namespace Go.V
theorem xM:∀ {fs:List Ty} {e:aO},cy fs e->e.length=fs.length
 |[],[],_=>rfl
 |[],_::_,h=>h.elim
 |_::_,[],h=>h.elim
 |_::fs,_::e,h=>by simp only[Zr];rw[xM h.2]
theorem Rw.wid {fs:List Ty}{es:af}(h:Rw fs es){n:Nat}(hn:n<es.length):(es.getD n []).length=fs.length:=xM (h.at hn)
theorem aeb {u:af}{i:Int}{b:Bool}(h:Rw [tB] u)(h0:0<=i)(h1:i<u.length):pm (.s 1 u) [(i.toNat,0)] [.v (.bool b)]=u.set i.toNat [.v (.bool b)]:=oP (by rw[h.wid (by omega)];rfl)
theorem RR {t:Ty}{u:af}{i:Int}(h:Rw [t] u)(h0:0<=i)(h1:i<u.length):∃ rec o',bQ (.s 1 u) [(i.toNat,0)]=some (rec,o')/\o'+1<=rec.length:=iJ (by omega) (by rw[h.wid (by omega)];exact Zf _)
end Go.V
namespace Go.V
def Bo (cs:af)(fr k v:Int):af:=cs.set fr.toNat [.s 1 ((ax cs fr 0).set k.toNat [.i v])]
theorem zy {cs:af}{fr:Int}(h:Rw [.sl [tI]] cs)(h0:0<=fr)(h1:fr<cs.length):cs.getD fr.toNat []=[.s 1 (ax cs fr 0)]:=h.eta h0 h1
theorem aea {cs:af}{fr k v:Int}(h:Rw [.sl [tI]] cs)(h0:0<=fr)(h1:fr<cs.length)(k0:0<=k)(k1:k<(ax cs fr 0).length):pm (.s 1 cs) [(fr.toNat,0),(k.toNat,0)] [.i v]=Bo cs fr k v:=by
 have hr:Rw [tI] (ax cs fr 0):=Rw.sub (fs:=[.sl [tI]]) h (by omega) rfl;have hw:=hr.wid (n:=k.toNat) (by omega);show cs.set fr.toNat ((cs.getD fr.toNat []).set 0 (lK ((cs.getD fr.toNat []).getD 0 .g) [(k.toNat,0)] [.i v]))=_;rw[zy h h0 h1];show cs.set fr.toNat [.s 1 ((ax cs fr 0).set k.toNat (((ax cs fr 0).getD k.toNat []).take 0++[.i v]++((ax cs fr 0).getD k.toNat []).drop (0+1)))]=_;have hw':((ax cs fr 0).getD k.toNat []).length=1:=hw;rw[List.take_zero,List.drop_of_length_le (by omega)];rfl
theorem RU {cs:af}{fr k:Int}(h:Rw [.sl [tI]] cs)(h0:0<=fr)(h1:fr<cs.length)(k0:0<=k)(k1:k<(ax cs fr 0).length):∃ rec o',bQ (.s 1 cs) [(fr.toNat,0),(k.toNat,0)]=some (rec,o')/\o'+1<=rec.length:=by
 have hr:Rw [tI] (ax cs fr 0):=Rw.sub (fs:=[.sl [tI]]) h (by omega) rfl;have hw:=hr.wid (n:=k.toNat) (by omega);refine⟨(ax cs fr 0).getD k.toNat [],0,?_,?_⟩
 ·have e:=zy h h0 h1;have e1:cs[fr.toNat]?=some [.s 1 (ax cs fr 0)]:=by
   rw[Zo,Zs (by omega)]at e;rw[Zs (by omega)];simpa using e
  show(match cs[fr.toNat]? with
   | some rec=>match rec[0]? with
     |some l=>bQ l [(k.toNat,0)]
     |none=>none
   |none=>none)=_
  rw[e1];show(((ax cs fr 0)[k.toNat]?).map (·,0))=_;rw[Zo,Zs (by omega)];rfl
 ·rw[hw];exact Zf _
theorem nU {cs:af}{fr:Int}:mR (.s 1 cs) [(fr.toNat,0)]=ax cs fr 0:=KY
theorem ND {cs:af}{fr:Int}(h:Rw [.sl [tI]] cs)(h0:0<=fr)(h1:fr<cs.length):cs[fr.toNat]?=some [.s 1 (ax cs fr 0)]:=by
 have e:=zy h h0 h1;rw[Zo,Zs (by omega)]at e;rw[Zs (by omega)];simpa using e
theorem DT {cs:af}{fr:Int}(h:Rw [.sl [tI]] cs)(h0:0<=fr)(h1:fr<cs.length):∃ rec o,bQ (.s 1 cs) [(fr.toNat,0)]=some (rec,o)/\o+[L.s 1 []].length<=rec.length/\Yo [L.s 1 []].length (YD o rec)=j5 am (.s 1 cs) [(fr.toNat,0)] 0 [L.s 1 []]:=by
 refine⟨[.s 1 (ax cs fr 0)],0,?_,Zf _,?_⟩
 ·show(cs[fr.toNat]?).map (·,0)=_;rw[ND h h0 h1];rfl
 ·show[L.s 1 (ax cs fr 0)]=[L.s 1 (mR (.s 1 cs) [(fr.toNat,0)])];rw[nU]
theorem vE {cs:af}{fr:Int}(h:Rw [.sl [tI]] cs)(h0:0<=fr)(h1:fr<cs.length):∃ es,gW (.s 1 cs) [(fr.toNat,0)]=some (1,es):=by
 refine⟨ax cs fr 0,?_⟩;rw[Km (by omega),zy h h0 h1];rfl
def smM (cs us es:af)(a:Int):Int:=if machOk cs us es=true then FE es a else 0
def smF (cs us es:af)(a:Int):Int:=if machOk cs us es=true then Jz es a else 0
theorem rY {cs us es:af}{a:Int}(h:machOk cs us es=true):smM cs us es a=FE es a/\smF cs us es a=Jz es a:=by unfold smM smF;rw[VN h,VN h];exact⟨rfl,rfl⟩
theorem yj {cs us es:af}{a:Int}(h:machOk cs us es=false\/a<0):smM cs us es a=0/\smF cs us es a=0:=by
 unfold smM smF;rcases h with h|h
 ·rw[h];exact⟨rfl,rfl⟩
 ·rw[(HT h).1,(HT (es:=es) h).2.1];constructor<;>split<;>rfl
theorem EZ {cs us es:af}{a:Int}(h:smM cs us es a≠0):machOk cs us es=true/\0<=a:=by
 constructor
 ·cases q:machOk cs us es
  ·exact absurd (yj (.inl q)).1 h
  ·rfl
 ·rcases Int.lt_or_le a 0 with q|q;exact absurd (yj (.inr q)).1 h;exact q
theorem M5 {cs us es:af}{a:Int}(h:smM cs us es a≠0):0<=smF cs us es a/\smF cs us es a<cs.length/\1<=smM cs us es a/\smM cs us es a<=2/\(ax cs (smF cs us es a) 0).length=16:=by
 obtain⟨h0,h1⟩:=EZ h;rw[(rY h0).1,(vO (by omega)).1]at h ⊢;rw[(rY h0).2,(vO (by omega)).2.1];have hm:=H8 h0;have hp:=aab hm.2.1 h;exact⟨hp.1,hp.2.1,hp.2.2.1,hp.2.2.2,Mg hm.1 hp.1 hp.2.1⟩
def stK (cs us es:af)(a v:Int):Int:=if smM cs us es a=0 then 1 else if smM cs us es a=1 then 2 else if inR v 0 999=true then 0 else 3
def stC (cs us es:af)(a v:Int):af:=if stK cs us es a v=0 then Bo cs (smF cs us es a) (a%16) v else cs
theorem aa2 {cs us es:af}{a v:Int}(h:smM cs us es a=0):stK cs us es a v=1/\stC cs us es a v=cs:=by
 have:stK cs us es a v=1:=by unfold stK;rw[VN h]
 exact⟨this,by unfold stC;rw[this];rfl⟩
theorem aa3 {cs us es:af}{a v:Int}(h:smM cs us es a=1):stK cs us es a v=2/\stC cs us es a v=cs:=by
 have:stK cs us es a v=2:=by unfold stK;rw[VO (by omega),VN h]
 exact⟨this,by unfold stC;rw[this];rfl⟩
theorem aa4 {cs us es:af}{a v:Int}(h0:smM cs us es a≠0)(h1:smM cs us es a≠1)(h:inR v 0 999=false):stK cs us es a v=3/\stC cs us es a v=cs:=by
 have:stK cs us es a v=3:=by unfold stK;rw[VO h0,VO h1,h];rfl
 exact⟨this,by unfold stC;rw[this];rfl⟩
theorem aa1 {cs us es:af}{a v:Int}(h0:smM cs us es a≠0)(h1:smM cs us es a≠1)(h:inR v 0 999=true):stK cs us es a v=0/\stC cs us es a v=Bo cs (smF cs us es a) (a%16) v:=by
 have:stK cs us es a v=0:=by unfold stK;rw[VO h0,VO h1,h];rfl
 exact⟨this,by unfold stC;rw[VN this]⟩
theorem E1 {a b c a' b' c':af}{x y:Int}(h1:a=a')(h2:b=b')(h3:c=c')(h4:x=y):[DV.agg [.s 1 a,.s 1 b,.s 2 c],DV.j x]=[DV.agg [.s 1 a',.s 1 b',.s 2 c'],DV.j y]:=by rw[h1,h2,h3,h4]
def clsSz (k:Int):Int:=if k=0 then 1 else if k=1 then 2 else if k=2 then 4 else if k=3 then 8 else 0
def clsOf (s:Int):Int:=if s<1 then-1 else if s<=1 then 0 else if s<=2 then 1 else if s<=4 then 2 else if s<=8 then 3 else-1
theorem Ri {k:Int}(h:inR k 0 3=false):clsSz k=0:=by rw[vK]at h;unfold clsSz;repeat' split<;>omega
theorem LZ {k:Int}(h:inR k 0 3=true):I0 .shl Za 1 k=clsSz k:=by
 rw[bz]at h;rcases(show k=0\/k=1\/k=2\/k=3 by omega)with rfl|rfl|rfl|rfl<;>decide
theorem L1 {k:Int}(h:inR k 0 3=true):JC .u64 k=k:=by
 rw[bz]at h;rcases(show k=0\/k=1\/k=2\/k=3 by omega)with rfl|rfl|rfl|rfl<;>decide
theorem L0 {k s:Int}(h0:0<=k/\k<=3)(h:clsSz k<s)(hs:1<=s/\s<=8):k+1<=3:=by
 rcases(show k=0\/k=1\/k=2\/k=3 by omega)with rfl|rfl|rfl|rfl<;>simp[clsSz]at h<;>omega
theorem Rh {s:Int}(h:s<1\/8<s):clsOf s= -1:=by unfold clsOf;repeat' split<;>omega
theorem NM {k s:Int}(h0:0<=k/\k<=3)(h:s<=clsSz k)(hs:1<=s/\s<=8)(hp:k=0\/clsSz (k-1)<s):clsOf s=k:=by
 rcases(show k=0\/k=1\/k=2\/k=3 by omega)with rfl|rfl|rfl|rfl<;>simp[clsSz]at h hp<;>unfold clsOf<;>repeat' split<;>omega
end Go.V
namespace Go.V
theorem pK {l:af}{i:Int}(h0:0<=i):uk (.s 1 l) [(i.toNat,0)]=ag l i 0:=by
 rw[zn];unfold ag;rw[ZE]
theorem DR {l:af}{i:Int}(h:Rw [tI] l)(h0:0<=i)(h1:i<l.length):∃ rec o,bQ (.s 1 l) [(i.toNat,0)]=some (rec,o)/\o+[L.v (Zq Za 0)].length<=rec.length/\Yo [L.v (Zq Za 0)].length (YD o rec)=j5 am (.s 1 l) [(i.toNat,0)] 0 [L.v (Zq Za 0)]:=by
 have e:l.getD i.toNat []=[L.i (ag l i 0)]:=h.eta h0 h1;rw[Zo,Zs (by omega)]at e;have e1:l[i.toNat]?=some [.i (ag l i 0)]:=by
  rw[Zs (by omega)];exact congrArg some e
 refine⟨[.i (ag l i 0)],0,?_,Zf _,?_⟩
 ·rw[j8,e1];rfl
 ·show[L.i (ag l i 0)]=[L.i (uk (.s 1 l) [(i.toNat,0)])];rw[pK h0]
end Go.V
namespace Go.V
def yl (us:af)(j:Int):Bool:=pf us j 0
def dT (us:af):Int:=match(Zj us.length).find? (fun j:Nat=> !pf us (j:Int) 0)with
 |some j=>(j:Int)
 |none=> -1
theorem free_at {us:af}{i:Int}(h:upto (yl us) i)(h0:0<=i)(h1:i<us.length)(h2:pf us i 0=false):dT us=i:=by
 have e:((i.toNat:Nat):Int)=i:=Zp h0;have:(Zj us.length).find? (fun j:Nat=> !pf us (j:Int) 0)=some i.toNat:=by
  rw[Xk];refine⟨by rw[e,h2];rfl,Ya.2 (by omega),fun j hj=>?_⟩;have:=h j (by omega) (by omega);unfold yl at this;rw[this];rfl
 unfold dT;rw[this];exact e
theorem Ki {us:af}{i:Int}(h:upto (yl us) i)(h1:(us.length:Int)<=i):dT us= -1:=by
 have:(Zj us.length).find? (fun j:Nat=> !pf us (j:Int) 0)=none:=by
  rw[XY];intro j hj;have:=h j (by omega) (by omega);unfold yl at this;rw[this];rfl
 unfold dT;rw[this]
theorem uc {us:af}:dT us= -1\/0<=dT us/\dT us<us.length:=by
 unfold dT;split
 ·rename_i j h;rw[Xk]at h;have:=Ya.1 h.2.1;omega
 ·exact .inl rfl
def ftB (cs us:af):Bool:=framesOk cs us&&decide (0<=dT us)
def ftI (cs us:af):Int:=if ftB cs us=true then dT us else-1
def ftU (cs us:af):af:=if ftB cs us=true then us.set (dT us).toNat [.v (.bool true)]else us
theorem Mk {cs us:af}(h:framesOk cs us=false\/dT us= -1):ftB cs us=false/\ftI cs us= -1/\ftU cs us=us:=by
 have:ftB cs us=false:=by
  unfold ftB;rcases h with h|h
  ·rw[h];rfl
  ·rw[h];simp
 unfold ftI ftU;rw[this];exact⟨rfl,rfl,rfl⟩
theorem Hj {cs us:af}{i:Int}(hf:framesOk cs us=true)(h0:0<=i)(h:dT us=i):ftB cs us=true/\ftI cs us=i/\ftU cs us=us.set i.toNat [.v (.bool true)]:=by
 have:ftB cs us=true:=by unfold ftB;rw[hf,h,VK h0];rfl
 unfold ftI ftU;rw[this,h];exact⟨rfl,rfl,rfl⟩
theorem Hi {a b a' b':af}{i i':Int}{x y:Bool}(h1:a=a')(h2:b=b')(h3:i=i')(h4:x=y):[DV.agg [.s 1 a,.s 1 b],DV.j i,DV.k x]=[DV.agg [.s 1 a',.s 1 b'],DV.j i',DV.k y]:=by rw[h1,h2,h3,h4]
theorem RN {cs us:af}(h:ftB cs us=true):0<=ftI cs us/\ftI cs us<cs.length/\ftI cs us=dT us/\ftU cs us=us.set (dT us).toNat [.v (.bool true)]:=by
 have hf:framesOk cs us=true/\0<=dT us:=by unfold ftB at h;simpa using h
 have q:=Hj hf.1 hf.2 rfl;have hb:=uc (us:=us);have hl:=pE hf.1;rw[q.2.1,q.2.2];exact⟨hf.2,by omega,rfl,rfl⟩
theorem Dv {fs:List Ty}{cs:af}{fr:Int}(h:Rw [.sl fs] cs)(h0:0<=fr)(h1:fr<cs.length):cs[fr.toNat]?=some [.s fs.length (ax cs fr 0)]:=by
 have e:cs.getD fr.toNat []=[.s fs.length (ax cs fr 0)]:=h.eta h0 h1;rw[Zo,Zs (by omega)]at e;rw[Zs (by omega)];simpa using e
theorem zm {es:af}{f:Int}:∀ {n:Nat} {e:aO},e∈s8 es f n->∃ k:Nat,k<n/\e=[.i k]
 |0,e,h=>by cases h
 | n+1,e,h=>by
   unfold s8 at h;split at h
   ·rcases Zg.1 h with q|q
    ·obtain⟨k,hk,e⟩:=zm q;exact⟨k,by omega,e⟩
    ·rw[List.mem_singleton]at q;exact⟨n,by omega,q⟩
   ·obtain⟨k,hk,e⟩:=zm h;exact⟨k,by omega,e⟩
theorem Iz {es:af}{f:Int}(h:es.length<=1099511627776):Rw [tI] (pagesOn es f):=by
 have hl:=yd (es:=es) (f:=f);refine⟨by simp[maxLen];omega,fun e he=>?_⟩;obtain⟨k,hk,rfl⟩:=zm he;exact⟨⟨rfl,(show-9223372036854775808<=(k:Int)/\(k:Int)<=9223372036854775807 by omega)⟩,trivial⟩
end Go.V
namespace Go.V
def cR (p:Int->Bool)(n:Nat):Int:=match(Zj n).find? (fun j:Nat=>p (j:Int))with
 |some j=>(j:Int)
 |none=> -1
def bR (p:Int->Bool)(j:Int):Bool:= !p j
theorem fX {p:Int->Bool}{i:Int}(h:p i=false):bR p i=true:=by unfold bR;rw[h];rfl
theorem dE {p:Int->Bool}{n:Nat}{i:Int}(h:upto (bR p) i)(h0:0<=i)(h1:i<n)(h2:p i=true):cR p n=i:=by
 have e:((i.toNat:Nat):Int)=i:=Zp h0;have:(Zj n).find? (fun j:Nat=>p (j:Int))=some i.toNat:=by
  rw[Xk];refine⟨by rw[e];exact h2,Ya.2 (by omega),fun j hj=>?_⟩;exact h j (by omega) (by omega)
 unfold cR;rw[this];exact e
theorem dF {p:Int->Bool}{n:Nat}{i:Int}(h:upto (bR p) i)(h1:(n:Int)<=i):cR p n= -1:=by
 have:(Zj n).find? (fun j:Nat=>p (j:Int))=none:=by
  rw[XY];intro j hj;exact h j (by omega) (by omega)
 unfold cR;rw[this]
theorem nD {p:Int->Bool}{n:Nat}:cR p n= -1\/0<=cR p n/\cR p n<n:=by
 unfold cR;split
 ·rename_i j h;rw[Xk]at h;have:=Ya.1 h.2.1;omega
 ·exact .inl rfl
def eqB (a b:Int):Bool:=decide (a=b)
theorem sK {a b:Int}(h:a=b):eqB a b=true:=VK h
theorem sJ {a b:Int}(h:a≠b):eqB a b=false:=VL h
end Go.V
namespace Go.V
def Bp (f:Int->Int):Nat->Int
 |0=>0
 |n+1=>bK .add Za (Bp f n) (f n)
theorem Lm {f:Int->Int}{i:Int}(h:0<=i):Bp f (i+1).toNat=bK .add Za (Bp f i.toNat) (f i):=by
 have e:((i.toNat:Nat):Int)=i:=Zp h;rw[show(i+1).toNat=i.toNat+1 by omega,Bp,e]
def szF (os:af)(i:Int):Int:=ag os i 2
def lsI (os:af):Int:=Bp (szF os) os.length
def waI (s:Int):Int:=if clsOf s<0 then 0 else bK .sub Za (clsSz (clsOf s)) s
theorem abl {s:Int}(h:clsOf s<0):waI s=0:=by unfold waI;rw[VN h]
theorem Qh {s:Int}(h:¬ clsOf s<0):waI s=bK .sub Za (clsSz (clsOf s)) s:=by unfold waI;rw[VO h]
def CB (os:af)(a j:Int):Bool:=eqB (ag os j 1) a
def obI (os:af)(a:Int):Int:=cR (CB os a) os.length
def isSp (ss:af)(p j:Int):Bool:=eqB (ag ss j 0) p
def spI (ss:af)(p:Int):Int:=cR (isSp ss p) ss.length
end Go.V
namespace Go.V
def Q6 (x:Int):BitVec 64:=ZH 64 x
theorem Lt (x:BitVec 64):YC Za (x.toNat:Int)=x.toInt:=by
 have h:=x.isLt;rw[BitVec.toInt_eq_toNat_cond];simp only[YC,Wy,Wz,Bool.true_and,VM,show(64-1:Nat)=63 from rfl];split<;>split<;>omega
theorem TY {a b:Int}:bK .or Za a b=(Q6 a|||Q6 b).toInt:=Lt _
def fpg (es:af)(p:Int):af:=if peM es p=0 then[]else pagesOn es (peF es p)
theorem He {es:af}{p:Int}(h:peM es p=0):fpg es p=[]:=by unfold fpg;rw[VN h]
theorem DO {es:af}{p:Int}(h:peM es p≠0):fpg es p=pagesOn es (peF es p):=by unfold fpg;rw[VO h]
theorem Hf {es:af}{p:Int}(h:es.length<=1099511627776):Rw [tI] (fpg es p)/\(fpg es p).length<=1099511627776:=by
 unfold fpg;split;exact⟨Rw.nil,by simp⟩;exact⟨Iz h,ZN yd h⟩
def Gc (l:af)(x j:Int):Bool:=eqB x (ag l j 0)
def idxI (l:af)(x:Int):Int:=cR (Gc l x) l.length
def hasB (l:af)(x:Int):Bool:=decide (0<=idxI l x)
theorem DU {l:af}{x:Int}:hasB l x=true↔∃ k:Nat,k<l.length/\ag l k 0=x:=by
 unfold hasB idxI;rw[VM]
 constructor
 ·intro h;unfold cR at h;split at h
  ·rename_i j hj;rw[Xk]at hj;refine⟨j,Ya.1 hj.2.1,?_⟩;have:=hj.1;unfold Gc eqB at this;exact(VP this).symm
  ·omega
 ·rintro⟨k,hk,e⟩;rcases nD (p:=Gc l x) (n:=l.length)with q|q
  ·exfalso;unfold cR at q;split at q
   ·omega
   ·rename_i hn;rw[XY]at hn;have:=hn k hk;unfold Gc eqB at this;rw[e]at this;simp at this
  ·exact q.1
def FW (ss l:af)(b:Int):Nat->Int
 |0=>b
 |n+1=>if hasB l (ag ss n 0)=true then bK .or Za (FW ss l b n) (ag ss n 2)else FW ss l b n
theorem Lq {ss l:af}{b i:Int}(h:0<=i)(q:hasB l (ag ss i 0)=true):FW ss l b (i+1).toNat=bK .or Za (FW ss l b i.toNat) (ag ss i 2):=by
 have e:((i.toNat:Nat):Int)=i:=Zp h;rw[show(i+1).toNat=i.toNat+1 by omega,FW,e,VN q]
theorem Qc {ss l:af}{b i:Int}(h:0<=i)(q:hasB l (ag ss i 0)=false):FW ss l b (i+1).toNat=FW ss l b i.toNat:=by
 have e:((i.toNat:Nat):Int)=i:=Zp h;rw[show(i+1).toNat=i.toNat+1 by omega,FW,e,q];rfl
def ubB (es ss:af)(i:Int):Int:=if inR i 0 (ss.length-1)=true then FW ss (fpg es (ag ss i 0)) (ag ss i 2) ss.length else 0
theorem abb {es ss:af}{i:Int}(h:inR i 0 (ss.length-1)=false):ubB es ss i=0:=by unfold ubB;rw[h];rfl
theorem Qd {es ss:af}{i:Int}(h:inR i 0 (ss.length-1)=true):ubB es ss i=FW ss (fpg es (ag ss i 0)) (ag ss i 2) ss.length:=by unfold ubB;rw[VN h]
end Go.V
namespace Go.V
def slB (b i:Int):Bool:=decide (0<=b)&&inR i 0 15
def hsB (b i:Int):Bool:=slB b i&&decide (bK .and Za (I0 .shr Za b i) 1=1)
theorem P2 {b i:Int}:slB b i=true↔0<=b/\0<=i/\i<=15:=by simp[slB,inR]
theorem SA {b i:Int}(h:slB b i=false):hsB b i=false:=by unfold hsB;rw[h];rfl
theorem BN {i:Int}(h0:0<=i)(h1:i<=15):JC .u64 i=i:=by
 show YC .u64 i=i;simp only[YC,Wy,Wz,Bool.false_and];rw[VO (by simp)];omega
def ctN (b:Int):Nat->Int
 |0=>0
 |n+1=>if hsB b n=true then bK .add Za (ctN b n) 1 else ctN b n
def ctI (b:Int):Int:=ctN b 16
def adm (ss:af)(i:Int):aO:=[.i (ag ss i 0),.i (ag ss i 1),.i (ag ss i 2)]
def msN (es ss:af):Nat->af
 |0=>[]
 |n+1=>if 0<ctI (ag ss n 2)/\(fpg es (ag ss n 0)).length=1 then msN es ss n++[adm ss n]else msN es ss n
def msS (es ss:af):af:=msN es ss ss.length
end Go.V
namespace Go.V
def xH:af:=Zl 16 [.i 0]
def fnC (n:Int):af:=if inR n 1 32=true then Zl n.toNat [.s 1 xH]else[]
def fnU (n:Int):af:=if inR n 1 32=true then Zl n.toNat [.v (.bool false)]else[]
def tnE (n:Int):af:=if inR n 1 32=true then Zl n.toNat [.i 0,.i 0]else[]
theorem nE {n:Int}(h:inR n 1 32=true):fnC n=Zl n.toNat [.s 1 xH]/\fnU n=Zl n.toNat [.v (.bool false)]/\tnE n=Zl n.toNat [.i 0,.i 0]:=by
 unfold fnC fnU tnE;rw[VN h,VN h,VN h];exact⟨rfl,rfl,rfl⟩
theorem Me {n:Int}(h:inR n 1 32=false):fnC n=[]/\fnU n=[]/\tnE n=[]:=by
 unfold fnC fnU tnE;rw[h];exact⟨rfl,rfl,rfl⟩
theorem IM {r:aO}{i:Int}(h:0<=i):Zl i.toNat r++[r]=Zl (i+1).toNat r:=by
 rw[show(i+1).toNat=i.toNat+1 by omega,List.replicate_succ']
def mnB (p f:Int):Bool:=inR f 1 32&&inR p 1 32
def mnC (p f:Int):af:=if mnB p f=true then fnC f else[]
def mnU (p f:Int):af:=if mnB p f=true then fnU f else[]
def mnE (p f:Int):af:=if mnB p f=true then tnE p else[]
theorem nM {p f:Int}(h:inR f 1 32=true)(h2:inR p 1 32=true):mnC p f=fnC f/\mnU p f=fnU f/\mnE p f=tnE p/\mnB p f=true:=by
 have e:mnB p f=true:=by unfold mnB;rw[h,h2];rfl
 unfold mnC mnU mnE;rw[VN e,VN e,VN e];exact⟨rfl,rfl,rfl,e⟩
theorem A4 {p f:Int}(h:mnB p f=false):mnC p f=[]/\mnU p f=[]/\mnE p f=[]/\mnB p f=false:=by
 unfold mnC mnU mnE;rw[h];exact⟨rfl,rfl,rfl,rfl⟩
theorem Pf {p f:Int}(h:inR f 1 32=false):mnB p f=false:=by unfold mnB;rw[h];rfl
theorem Pg {p f:Int}(h:inR p 1 32=false):mnB p f=false:=by unfold mnB;rw[h];simp
theorem Ph {p f:Int}(h:mnB p f=true):inR f 1 32=true/\inR p 1 32=true:=by unfold mnB at h;simpa using h
def A8 (rs:af)(i:Int):Bool:=decide (0<=ag rs i 0)
def kH (rs:af):Bool:=cH (A8 rs) rs.length&&decide (rs.length<=40)
def kerOk (cs us es:af)(c:Int)(rs:af):Bool:=machOk cs us es&&inR c 0 100000&&kH rs
theorem IK {rs:af}{i:Int}(h:0<=ag rs i 0):A8 rs i=true:=VK h
theorem IL {cs us es rs:af}{c i:Int}(h0:0<=i)(h1:i<rs.length)(h:ag rs i 0<0):kerOk cs us es c rs=false:=by
 unfold kerOk kH;rw[bP h0 h1 (by unfold A8;exact VL (by omega))];simp
theorem K6 {rs:af}{i:Int}(h:upto (A8 rs) i)(hi:(rs.length:Int)<=i)(hl:(rs.length:Int)<=40):kH rs=true:=by
 unfold kH;rw[bJ h hi,VK (by omega)];rfl
theorem K5 {rs:af}(hl:¬ (rs.length:Int)<=40):kH rs=false:=by
 unfold kH;rw[VL (by omega)];simp
theorem D3 {cs us es rs:af}{c:Int}(h1:machOk cs us es=true)(h2:inR c 0 100000=true)(h3:kH rs=true):kerOk cs us es c rs=true:=by unfold kerOk;rw[h1,h2,h3];rfl
theorem Ky {cs us es rs:af}{c:Int}(h1:machOk cs us es=false):kerOk cs us es c rs=false:=by unfold kerOk;rw[h1];rfl
theorem D2 {cs us es rs:af}{c:Int}(h1:inR c 0 100000=false):kerOk cs us es c rs=false:=by unfold kerOk;rw[h1];simp
theorem Kz {cs us es rs:af}{c:Int}(h1:kH rs=false):kerOk cs us es c rs=false:=by unfold kerOk;rw[h1];simp
theorem SO {cs us es rs:af}{c:Int}(h:kerOk cs us es c rs=true):machOk cs us es=true/\inR c 0 100000=true/\kH rs=true:=by
 unfold kerOk at h;simp only[Zc]at h;exact⟨h.1.1,h.1.2,h.2⟩
theorem qJ {r:aO}{n:Nat}{i:Int}(h0:0<=i)(h1:i<n):(Zl n r).getD i.toNat []=r:=by
 rw[Zo,List.getElem?_replicate,VN (by omega)];rfl
theorem CN {n:Nat}{i:Int}{j:Nat}(h0:0<=i)(h1:i<n)(hj:j<2):ag (Zl n [.i 0,.i 0]) i j=0:=by
 unfold ag;rw[qJ h0 h1];rcases(show j=0\/j=1 by omega)with rfl|rfl<;>rfl
theorem FI {n:Nat}{f:Int}:pagesOn (Zl n [.i 0,.i 0]) f=[]:=by
 have key:∀ m,m<=n->s8 (Zl n [.i 0,.i 0]) f m=[]:=by
  intro m
  induction m with
  |zero=>intro _;rfl
  | succ m ih=>
    intro h;rw[CW (.inl (CN (by omega) (by omega) (by omega)))];exact ih (by omega)
 unfold pagesOn;exact key _ (by simp)
theorem Ii {f p:Int}(hf:inR f 1 32=true)(hp:inR p 1 32=true):machOk (fnC f) (fnU f) (tnE p)=true:=by
 have h1:=bz.1 hf;have h2:=bz.1 hp;rw[(nE hf).1,(nE hf).2.1,(nE hp).2.2];have fo:framesOk (Zl f.toNat [.s 1 xH]) (Zl f.toNat [.v (.bool false)])=true:=by
  refine Cl (i:=f) ?_ (by simp) ?_ (by simp;omega)
  ·rw[YV,bz];omega
  ·intro j j0 j1;have e:ax (Zl f.toNat [.s 1 xH]) j 0=xH:=by unfold ax;rw[qJ j0 (by omega)];rfl
   refine Hg (k:=16) (by rw[e];rfl) ?_ (by omega);intro k k0 k1;have e2:ag xH k 0=0:=by unfold ag xH;rw[qJ k0 (by omega)];rfl
   refine GQ (by rw[e,e2];rfl) (.inr (by rw[e,e2]))
 have to:tableOk (Zl p.toNat [.i 0,.i 0]) (Zl f.toNat [L.s 1 xH]).length=true:=by
  rw[Da (i:=p) ?_ (by simp;omega)]
  ·rw[YV,bz];omega
  ·intro j j0 j1;refine I9 ?_;rw[CN j0 (by omega) (by omega),CN j0 (by omega) (by omega)];omega
 refine y7 (i:=f) fo ?_ ?_ (by simp;omega)
 ·rw[(pE fo).1];exact to
 ·intro j j0 j1;refine Ej ?_;have e:pf (Zl f.toNat [.v (.bool false)]) j 0=false:=by unfold pf;rw[qJ j0 (by omega)];rfl
  rw[e];unfold fy;rw[FI];rfl
def knB (p f:Int)(rs:af):Bool:=mnB p f&&kH rs
def knC (p f:Int)(rs:af):af:=if knB p f rs=true then fnC f else[]
def knU (p f:Int)(rs:af):af:=if knB p f rs=true then fnU f else[]
def knE (p f:Int)(rs:af):af:=if knB p f rs=true then tnE p else[]
def knR (p f:Int)(rs:af):af:=if knB p f rs=true then rs else[]
theorem HK {p f:Int}{rs:af}(h:knB p f rs=true):knC p f rs=fnC f/\knU p f rs=fnU f/\knE p f rs=tnE p/\knR p f rs=rs:=by
 unfold knC knU knE knR;rw[VN h,VN h,VN h,VN h];exact⟨rfl,rfl,rfl,rfl⟩
theorem Mv {p f:Int}{rs:af}(h:knB p f rs=false):knC p f rs=[]/\knU p f rs=[]/\knE p f rs=[]/\knR p f rs=[]:=by
 unfold knC knU knE knR;rw[h];exact⟨rfl,rfl,rfl,rfl⟩
theorem N9:Xy Za 0:=by unfold Xy;decide
theorem CK {p f:Int}:Rw [.sl [tI]] (mnC p f)/\Rw [tB] (mnU p f)/\Rw [tI,tI] (mnE p f):=by
 cases h:mnB p f
 ·rw[(A4 h).1,(A4 h).2.1,(A4 h).2.2.1];exact⟨Rw.nil,Rw.nil,Rw.nil⟩
 ·obtain⟨hf,hp⟩:=Ph h;rw[(nM hf hp).1,(nM hf hp).2.1,(nM hf hp).2.2.1,(nE hf).1,(nE hf).2.1,(nE hp).2.2];have h1:=bz.1 hf;have h2:=bz.1 hp;have z:cy [tI] [L.i 0]:=⟨⟨rfl,N9⟩,trivial⟩;refine⟨Rw.replicate (fs:=[.sl [tI]]) ?_ (by unfold maxLen;omega),Rw.replicate (fs:=[tB]) ?_ (by unfold maxLen;omega),Rw.replicate (fs:=[tI,tI]) ?_ (by unfold maxLen;omega)⟩;exact⟨⟨rfl,Rw.replicate (fs:=[tI]) z (by unfold maxLen;omega)⟩,trivial⟩;exact⟨trivial,trivial⟩;exact⟨⟨rfl,N9⟩,⟨rfl,N9⟩,trivial⟩
theorem KO {p f:Int}(h:mnB p f=true):machOk (mnC p f) (mnU p f) (mnE p f)=true:=by
 obtain⟨hf,hp⟩:=Ph h;rw[(nM hf hp).1,(nM hf hp).2.1,(nM hf hp).2.2.1];exact Ii hf hp
theorem SQ {p f:Int}{rs:af}(h:mnB p f=true)(k:kerOk (mnC p f) (mnU p f) (mnE p f) 0 rs=true):knB p f rs=true:=by
 unfold knB;rw[h,(SO k).2.2];rfl
theorem OL {p f:Int}{rs:af}(h:mnB p f=true)(k:kerOk (mnC p f) (mnU p f) (mnE p f) 0 rs=false):knB p f rs=false:=by
 unfold knB;cases q:kH rs
 ·simp
 ·rw[D3 (KO h) rfl q]at k;cases k
theorem KB {p f:Int}{rs:af}(h:mnB p f=false):knB p f rs=false:=by unfold knB;rw[h];rfl
theorem ac7 {p f:Int}{rs:af}(h:knB p f rs=true):mnB p f=true:=by unfold knB at h;simp only[Zc]at h;exact h.1
def mwB (t:Int):af:=if inR t 1 4=true then Zl t.toNat [.s 2 []]else[]
def mwI (t:Int):af:=if inR t 1 4=true then Zl t.toNat [.s 1 []]else[]
theorem Pm {t:Int}(h:inR t 1 4=true):mwB t=Zl t.toNat [.s 2 []]/\mwI t=Zl t.toNat [.s 1 []]:=by unfold mwB mwI;rw[VN h,VN h];exact⟨rfl,rfl⟩
theorem TH {t:Int}(h:inR t 1 4=false):mwB t=[]/\mwI t=[]:=by unfold mwB mwI;rw[h];exact⟨rfl,rfl⟩
def qnR (r:Int):Int:=if inR r 0 500=true then r else 0
theorem PI {r:Int}(h:inR r 0 500=true):qnR r=r:=by unfold qnR;rw[VN h]
theorem aax {r:Int}(h:inR r 0 500=false):qnR r=0:=by unfold qnR;rw[h];rfl
def cnL:af:=Zl 4 [.s 1 []]
def hnB (p f t l:Int)(rs:af):Bool:=knB p f rs&&(inR t 1 4&&inR l 0 1000)
def hnC (p f t l:Int)(rs:af):af:=if hnB p f t l rs=true then fnC f else[]
def hnU (p f t l:Int)(rs:af):af:=if hnB p f t l rs=true then fnU f else[]
def hnE (p f t l:Int)(rs:af):af:=if hnB p f t l rs=true then tnE p else[]
def hnR (p f t l:Int)(rs:af):af:=if hnB p f t l rs=true then rs else[]
def hnF (p f t l:Int)(rs:af):af:=if hnB p f t l rs=true then[[.i 0,.i p]]else[]
def hnK (p f t l:Int)(rs:af):af:=if hnB p f t l rs=true then Zl t.toNat [.s 1 cnL]else[]
def hnM (p f t l:Int)(rs:af):af:=if hnB p f t l rs=true then mwB t else[]
def hnI (p f t l:Int)(rs:af):af:=if hnB p f t l rs=true then mwI t else[]
def hnQ (p f t l:Int)(rs:af):Int:=if hnB p f t l rs=true then 16 else 0
def hnL (p f t l:Int)(rs:af):Int:=if hnB p f t l rs=true then l else 0
def hnN (p f t l:Int)(rs:af):Int:=if hnB p f t l rs=true then 1 else 0
theorem Oe {p f t l:Int}{rs:af}(h:hnB p f t l rs=true):hnC p f t l rs=fnC f/\hnU p f t l rs=fnU f/\hnE p f t l rs=tnE p/\hnR p f t l rs=rs/\hnF p f t l rs=[[.i 0,.i p]]/\
 hnK p f t l rs=Zl t.toNat [.s 1 cnL]/\hnM p f t l rs=mwB t/\hnI p f t l rs=mwI t/\hnQ p f t l rs=16/\hnL p f t l rs=l/\hnN p f t l rs=1:=by
 unfold hnC hnU hnE hnR hnF hnK hnM hnI hnQ hnL hnN;simp only[h,if_true];exact⟨trivial,trivial,trivial,trivial,trivial,trivial,trivial,trivial,trivial,trivial,trivial⟩
theorem R5 {p f t l:Int}{rs:af}(h:hnB p f t l rs=false):hnC p f t l rs=[]/\hnU p f t l rs=[]/\hnE p f t l rs=[]/\hnR p f t l rs=[]/\hnF p f t l rs=[]/\
 hnK p f t l rs=[]/\hnM p f t l rs=[]/\hnI p f t l rs=[]/\hnQ p f t l rs=0/\hnL p f t l rs=0/\hnN p f t l rs=0:=by
 unfold hnC hnU hnE hnR hnF hnK hnM hnI hnQ hnL hnN;simp[h]
theorem Od {p f t l:Int}{rs:af}:hnB p f t l rs=true↔knB p f rs=true/\inR t 1 4=true/\inR l 0 1000=true:=by unfold hnB;simp
theorem acG {p f t l:Int}{rs:af}(h:¬ (knB p f rs=true/\inR t 1 4=true/\inR l 0 1000=true)):hnB p f t l rs=false:=by
 cases q:hnB p f t l rs
 ·rfl
 ·exact absurd (Od.1 q) h
theorem Mo {c u e r fr k m i c' u' e' r' fr' k' m' i':af}{q l n q' l' n':Int}{b b':Bool}(h1:c=c')(h2:u=u')(h3:e=e')(h4:r=r')(h5:fr=fr')(h6:k=k')(h7:m=m')(h8:i=i')(h9:q=q')(h10:l=l')(h11:n=n')(h12:b=b'):
 [DV.agg (QG c u e 0 r fr [] [] [] k m i q [] 0 0 l n false 0 0 [] 0 0),.k b]=
 [DV.agg (QG c' u' e' 0 r' fr' [] [] [] k' m' i' q' [] 0 0 l' n' false 0 0 [] 0 0),.k b']:=by
 subst h1 h2 h3 h4 h5 h6 h7 h8 h9 h10 h11 h12;rfl
theorem IQ {c u e r c' u' e' r':af}{b b':Bool}(h1:c=c')(h2:u=u')(h3:e=e')(h4:r=r')(h5:b=b'):
 [DV.agg [.s 1 c,.s 1 u,.s 2 e,.i 0,.s 1 r],.k b]=[DV.agg [.s 1 c',.s 1 u',.s 2 e',.i 0,.s 1 r'],.k b']:=by subst h1 h2 h3 h4 h5;rfl
theorem IR {c u e c' u' e':af}{b b':Bool}(h1:c=c')(h2:u=u')(h3:e=e')(h5:b=b'):
 [DV.agg [.s 1 c,.s 1 u,.s 2 e],.k b]=[DV.agg [.s 1 c',.s 1 u',.s 2 e'],.k b']:=by subst h1 h2 h3 h5;rfl
theorem EJ {k1 k2:Nat}{c u c' u':af}{b b':Bool}(h1:c=c')(h2:u=u')(h5:b=b'):
 [DV.agg [.s k1 c,.s k2 u],.k b]=[DV.agg [.s k1 c',.s k2 u'],.k b']:=by subst h1 h2 h5;rfl
theorem MZ {k1:Nat}{c c':af}{b b':Bool}(h1:c=c')(h5:b=b'):
 [DV.agg [.s k1 c],.k b]=[DV.agg [.s k1 c'],.k b']:=by subst h1 h5;rfl
theorem M1 {q q':Int}{b b':Bool}(h1:q=q')(h5:b=b'):
 [DV.agg [.i q,.s 3 []],.k b]=[DV.agg [.i q',.s 3 []],.k b']:=by subst h1 h5;rfl
end Go.V
namespace Go.V
def tU:Ty:=.int .u8
theorem Fi {a:Int}{m:Nat}(hm:m<=4611686018427387904):0<=bK .and Za a m/\bK .and Za a m<=m:=by
 have h1:(ZH 64 a&&&ZH 64 (m:Int)).toNat<=m:=by
  rw[BitVec.toNat_and];refine ZN Nat.and_le_right ?_;rw[BitVec.toNat_ofInt,Int.emod_eq_of_lt (by omega) (by omega)];omega
 have h2:bK .and Za a m=((ZH 64 a&&&ZH 64 (m:Int)).toNat:Int):=by
  show YC Za _=_;refine YT _ ⟨?_,?_⟩;exact XZ (by decide) (Int.natCast_nonneg _);exact XZ (Int.ofNat_le.2 h1) (by omega)
 rw[h2];omega
def bH (h:Int):Int:=bK .add Za (bK .mul Za h 6364136223846793005) 1442695040888963407
def bY (h:Int):Int:=bK .and Za (bK .xor Za (I0 .shr Za (bH h) 33) (I0 .shr Za (bH h) 45)) 255
def bI (cs:af)(i:Int):Int:=if i<cs.length then i+1 else i
def bX (cs:af)(i h:Int):Int:=if i<cs.length then bK .and Za (bK .add Za (bY h) (JC Za (ag cs i 0))) 255 else bY h
theorem LK {cs:af}{i h:Int}(q:i<cs.length):bI cs i=i+1/\bX cs i h=bK .and Za (bK .add Za (bY h) (JC Za (ag cs i 0))) 255:=by unfold bI bX;rw[VN q,VN q];exact⟨rfl,rfl⟩
theorem QZ {cs:af}{i h:Int}(q:¬ i<cs.length):bI cs i=i/\bX cs i h=bY h:=by unfold bI bX;rw[VO q,VO q];exact⟨rfl,rfl⟩
theorem uC {cs:af}{i:Int}(h0:0<=i)(h1:i<=cs.length):0<=bI cs i/\bI cs i<=cs.length:=by unfold bI;split<;>omega
theorem Az {cs:af}{i h:Int}:0<=bX cs i h/\bX cs i h<=255:=by
 unfold bX bY;split<;>exact Fi (m:=255) (by decide)
def wI (cs:af)(i n:Int):Int:=if n<=0 then i else if n<=256 then bI cs i else bI cs (bI cs (bI cs (bI cs i)))
def wH (h n:Int):Int:=if n<=0 then h else if n<=256 then bH h else bH (bH (bH (bH h)))
def wS (x y z w:Int):Int:=bK .add Za (bK .add Za (bK .add Za (bK .mul Za x 16777216) (bK .mul Za y 65536)) (bK .mul Za z 256)) w
def wX (cs:af)(i h n:Int):Int:=if n<=0 then 0 else if n<=256 then bK .rem Za (bX cs i h) n else
 bK .rem Za (wS (bX cs i h) (bX cs (bI cs i) (bH h)) (bX cs (bI cs (bI cs i)) (bH (bH h))) (bX cs (bI cs (bI cs (bI cs i))) (bH (bH (bH h))))) n
theorem w_0 {cs:af}{i h n:Int}(q:n<=0):wI cs i n=i/\wH h n=h/\wX cs i h n=0:=by unfold wI wH wX;rw[VN q,VN q,VN q];exact⟨rfl,rfl,rfl⟩
theorem w_1 {cs:af}{i h n:Int}(q:0<n)(q2:n<=256):wI cs i n=bI cs i/\wH h n=bH h/\wX cs i h n=bK .rem Za (bX cs i h) n:=by
 have q3:¬ n<=0:=by omega
 unfold wI wH wX;simp only[VO q3,VN q2];exact⟨trivial,trivial,trivial⟩
theorem w_4 {cs:af}{i h n:Int}(q2:256<n):wI cs i n=bI cs (bI cs (bI cs (bI cs i)))/\wH h n=bH (bH (bH (bH h)))/\
 wX cs i h n=bK .rem Za (wS (bX cs i h) (bX cs (bI cs i) (bH h)) (bX cs (bI cs (bI cs i)) (bH (bH h))) (bX cs (bI cs (bI cs (bI cs i))) (bH (bH (bH h))))) n:=by
 have q3:¬ n<=0:=by omega
 have q4:¬ n<=256:=by omega
 unfold wI wH wX;simp only[VO q3,VO q4];exact⟨trivial,trivial,trivial⟩
theorem abj {cs:af}{i n:Int}(h0:0<=i)(h1:i<=cs.length):0<=wI cs i n/\wI cs i n<=cs.length:=by
 have a:=uC h0 h1;have b:=uC a.1 a.2;have c:=uC b.1 b.2;have d:=uC c.1 c.2;unfold wI;split;exact⟨h0,h1⟩
 ·split;exact a;exact d
theorem Ih {a b:Int}(h: -9223372036854775808<=a*b/\a*b<=9223372036854775807):bK .mul Za a b=a*b:=YT _ h
theorem oL {a n:Int}(ha:0<=a)(hn:0<n):0<=bK .rem Za a n/\bK .rem Za a n<n:=by
 show 0<=a.tmod n/\a.tmod n<n;rw[Wx ha];exact⟨Int.emod_nonneg _ (by omega),Int.emod_lt_of_pos _ hn⟩
theorem abk {cs:af}{i h n:Int}(hn:0<n):0<=wX cs i h n/\wX cs i h n<n:=by
 unfold wX;rw[VO (by omega)];split;exact oL Az.1 hn
 ·have x:=Az (cs:=cs) (i:=i) (h:=h);have y:=Az (cs:=cs) (i:=bI cs i) (h:=bH h);have z:=Az (cs:=cs) (i:=bI cs (bI cs i)) (h:=bH (bH h));have w:=Az (cs:=cs) (i:=bI cs (bI cs (bI cs i))) (h:=bH (bH (bH h)));refine oL ?_ hn;generalize bX cs i h=x0 at*;generalize bX cs (bI cs i) (bH h)=y0 at*;generalize bX cs (bI cs (bI cs i)) (bH (bH h))=z0 at*;generalize bX cs (bI cs (bI cs (bI cs i))) (bH (bH (bH h)))=w0 at*;unfold wS;have m1:bK .mul Za x0 16777216=x0*16777216:=Ih (by omega);have m2:bK .mul Za y0 65536=y0*65536:=Ih (by omega);have m3:bK .mul Za z0 256=z0*256:=Ih (by omega);rw[m1,m2,m3];have a1:bK .add Za (x0*16777216) (y0*65536)=x0*16777216+y0*65536:=bT (by omega);rw[a1];have a2:bK .add Za (x0*16777216+y0*65536) (z0*256)=x0*16777216+y0*65536+z0*256:=bT (by omega);rw[a2];have a3:bK .add Za (x0*16777216+y0*65536+z0*256) w0=x0*16777216+y0*65536+z0*256+w0:=bT (by omega);rw[a3];omega
def sR (cs:af):Nat->Int
 |0=>bK .add Za 98801 cs.length
 |n+1=>bK .and Za (bK .add Za (bK .add Za (bK .mul Za (sR cs n) 131) (JC Za (ag cs n 0))) 7) 1073741823
def l01h (cs:af):Int:=sR cs (min cs.length 4000)
theorem KD {cs:af}{i:Int}(h0:0<=i):sR cs (i+1).toNat=bK .and Za (bK .add Za (bK .add Za (bK .mul Za (sR cs i.toNat) 131) (JC Za (ag cs i 0))) 7) 1073741823:=by
 have e:((i.toNat:Nat):Int)=i:=Zp h0;rw[show(i+1).toNat=i.toNat+1 by omega,sR,e]
theorem HL {cs:af}{i:Int}(h0:0<=i)(h1:i<=cs.length)(h2:i<=4000)(h3:¬ (i<cs.length/\i<4000)):sR cs i.toNat=l01h cs:=by
 unfold l01h;congr 1;omega
def dpS (cs:af)(s:Int×Int×af):Int×Int×af:=(wI cs s.1 10000,wH s.2.1 10000,s.2.2++[[.i (wX cs s.1 s.2.1 10000)]])
def AH (cs:af):Nat->Int×Int×af
 |0=>(0,l01h cs,[])
 |n+1=>dpS cs (AH cs n)
def dpl (cs:af):af:=(AH cs 12).2.2
theorem Rv {cs:af}{i:Int}(h0:0<=i):AH cs (i+1).toNat=dpS cs (AH cs i.toNat):=by
 rw[show(i+1).toNat=i.toNat+1 by omega,AH]
theorem DJ {cs:af}:∀ n,0<=(AH cs n).1/\(AH cs n).1<=cs.length/\(AH cs n).2.2.length=n/\∀ j:Nat,j<n->∃ x:Int,0<=x/\x<10000/\(AH cs n).2.2.getD j []=[.i x]
 |0=>⟨Yd _,by show(0:Int)<=_;omega,rfl,fun j hj=>by omega⟩
 | n+1=>by
   obtain⟨h1,h2,h3,h4⟩:=DJ (cs:=cs) n;have w:=abj (n:=10000) h1 h2;have x:=abk (cs:=cs) (i:=(AH cs n).1) (h:=(AH cs n).2.1) (n:=10000) (by omega);refine⟨w.1,w.2,by simp[AH,dpS,h3],fun j hj=>?_⟩;simp only[AH,dpS];by_cases c:j<n
   ·obtain⟨y,q1,q2,q3⟩:=h4 j c;refine⟨y,q1,q2,?_⟩;rw[Zo,List.getElem?_append_left (by omega), <-Zo];exact q3
   ·refine⟨_,x.1,x.2,?_⟩;have e:j=(AH cs n).2.2.length:=by omega
    rw[Zo,e];simp
theorem yI {cs:af}:(dpl cs).length=12:=(DJ 12).2.2.1
theorem Cg {cs:af}{j:Int}(h0:0<=j)(h1:j<12):0<=ag (dpl cs) j 0/\ag (dpl cs) j 0<10000/\(dpl cs).getD j.toNat []=[.i (ag (dpl cs) j 0)]:=by
 obtain⟨x,q1,q2,q3⟩:=(DJ (cs:=cs) 12).2.2.2 j.toNat (by omega);have e:ag (dpl cs) j 0=x:=by unfold ag dpl;rw[q3];rfl
 rw[e];exact⟨q1,q2,q3⟩
theorem NP {cs:af}:Rw [tI] (dpl cs):=by
 refine⟨by rw[yI];decide,fun e he=>?_⟩;obtain⟨j,hj⟩:=List.getElem?_of_mem he;have hl:j<12:=by rw[<-yI (cs:=cs)];exact(List.getElem?_eq_some_iff.1 hj).1
 obtain⟨h1,h2,h3⟩:=Cg (cs:=cs) (j:=j) (by omega) (by omega);rw[ZE,Zo,hj]at h3;have h3:e=_:=h3;rw[h3];have hh:Xy Za (ag (dpl cs) (j:Int) 0):=by show-9223372036854775808<=_/\_<=(9223372036854775807:Int);omega
 exact⟨⟨rfl,hh⟩,trivial⟩
end Go.V
namespace Go.V
end Go.V
namespace Go.V
end Go.V
namespace Go.V
def slN (k:Int):Int:=if inR k 0 3=true then 16/clsSz k else 0
theorem GV {k:Int}(h:inR k 0 3=true):k=0\/k=1\/k=2\/k=3:=by have:=bz.1 h;omega
theorem jr {k:Int}(h:inR k 0 3=true):1<=clsSz k/\clsSz k<=8/\2<=slN k/\slN k<=16/\slN k*clsSz k=16:=by
 rcases GV h with rfl|rfl|rfl|rfl<;>decide
theorem I2 {k:Int}(h:inR k 0 3=true):bK .quo Za 16 (clsSz k)=slN k:=by
 rcases GV h with rfl|rfl|rfl|rfl<;>decide
theorem I3 {k:Int}(h:inR k 0 3=true):I0 .shr Za 16 (JC .u64 k)=slN k:=by
 rcases GV h with rfl|rfl|rfl|rfl<;>decide
theorem C7 {k:Int}(h:inR k 0 3=false):slN k=0:=by unfold slN;rw[h];rfl
def bmOk (n b:Int):Bool:=inR n 1 16&&inR b 0 (2^n.toNat-1)
theorem I1 {n:Int}(h:inR n 1 16=true):bK .sub Za (I0 .shl Za 1 n) 1=2^n.toNat-1/\bK .sub Za (I0 .shl Za 1 (JC .u64 n)) 1=2^n.toNat-1/\0<=JC .u64 n:=by
 have q:=bz.1 h;have:n=1\/n=2\/n=3\/n=4\/n=5\/n=6\/n=7\/n=8\/n=9\/n=10\/n=11\/n=12\/n=13\/n=14\/n=15\/n=16:=by omega
 rcases this with rfl|rfl|rfl|rfl|rfl|rfl|rfl|rfl|rfl|rfl|rfl|rfl|rfl|rfl|rfl|rfl<;>decide
theorem LM {n b:Int}(h:inR n 1 16=false):bmOk n b=false:=by unfold bmOk;rw[h];rfl
theorem GC {n b:Int}(h:inR n 1 16=true):bmOk n b=inR b 0 (2^n.toNat-1):=by unfold bmOk;rw[h];rfl
def spOk (p k b:Int):Bool:=inR p 0 31&&bmOk (slN k) b
theorem GB {k b:Int}(h:inR k 0 3=false):bmOk (slN k) b=false:=by rw[C7 h];rfl
theorem I5 {p k b:Int}(h:inR p 0 31=false):spOk p k b=false:=by unfold spOk;rw[h];rfl
theorem P3 {p k b:Int}(h:inR k 0 3=false):spOk p k b=false:=by unfold spOk;rw[GB h,Z4]
theorem I6 {p k b:Int}(h:inR p 0 31=true):spOk p k b=bmOk (slN k) b:=by unfold spOk;rw[h];rfl
theorem lL {p k b:Int}(h:spOk p k b=true):0<=p/\p<=31/\inR k 0 3=true/\bmOk (slN k) b=true:=by
 unfold spOk at h;simp only[Zc,bz]at h;refine⟨h.1.1,h.1.2,?_,h.2⟩;cases q:inR k 0 3
 ·rw[GB q]at h;exact absurd h.2 (by decide)
 ·rfl
theorem ace {k b:Int}(h:bmOk (slN k) b=true):0<=b/\b<=65535:=by
 unfold bmOk at h;simp only[Zc,bz]at h;have hn:(slN k).toNat<=16:=by omega
 have hp:(2:Int)^(slN k).toNat<=2^16:=by
  have:=Nat.pow_le_pow_right (show 0<2 by omega) hn
  exact_mod_cast this
 omega
def pfN (s:Int):Int:=if inR s 9 1000=true then(s+15)/16 else 0
theorem PC {s:Int}(h:inR s 9 1000=true):bK .quo Za (bK .sub Za (bK .add Za s 16) 1) 16=pfN s:=by
 have q:=bz.1 h;have e1:bK .add Za s 16=s+16:=bT (by omega);have e2:bK .sub Za (s+16) 1=s+16-1:=fG (by omega);unfold pfN;rw[VN h,e1,e2,v9 (by omega) (by omega) (by omega),show s+16-1=s+15 from by omega]
theorem MP {s:Int}(h:inR s 9 1000=false):pfN s=0:=by unfold pfN;rw[h];rfl
theorem ku {s:Int}(h:inR s 9 1000=true):1<=pfN s/\pfN s<=63/\s<=pfN s*16:=by
 have q:=bz.1 h;unfold pfN;rw[VN h];omega
theorem IA {s:Int}:0<pfN s↔inR s 9 1000=true:=by
 constructor
 ·intro h;cases q:inR s 9 1000
  ·rw[MP q]at h;omega
  ·rfl
 ·intro h;have:=ku h;omega
def lgOk (p n s:Int):Bool:=inR s 9 1000&&(decide (n=pfN s)&&inR p 0 (32-n))
theorem HZ {p n s:Int}(h:inR s 9 1000=false):lgOk p n s=false:=by unfold lgOk;rw[h];rfl
theorem H0 {p n s:Int}(h:n≠pfN s):lgOk p n s=false:=by unfold lgOk;rw[VL h];simp
theorem H1 {p n s:Int}(h:inR s 9 1000=true)(h2:n=pfN s):lgOk p n s=inR p 0 (32-n):=by unfold lgOk;rw[h,VK h2];rfl
theorem k7 {p n s:Int}(h:lgOk p n s=true):inR s 9 1000=true/\n=pfN s/\0<=p/\p<=32-n:=by
 unfold lgOk at h;simp only[Zc,VM,bz]at h;exact⟨bz.2 h.1,h.2.1,h.2.2⟩
def BV (p k b a:Int):Bool:=spOk p k b&&inR a (p*16) (p*16+15)
def saS (p k b a:Int):Int:=if BV p k b a=true then(a-p*16)/clsSz k else-1
def saO (p k b a:Int):Int:=if BV p k b a=true then(a-p*16)%clsSz k else-1
theorem yh {p k b a:Int}(h:BV p k b a=false):saS p k b a= -1/\saO p k b a= -1:=by unfold saS saO;rw[h];exact⟨rfl,rfl⟩
theorem wq {p k b a:Int}(h:BV p k b a=true):saS p k b a=(a-p*16)/clsSz k/\saO p k b a=(a-p*16)%clsSz k:=by unfold saS saO;rw[VN h,VN h];exact⟨rfl,rfl⟩
theorem Bi {p k b a:Int}:BV p k b a=true↔spOk p k b=true/\p*16<=a/\a<=p*16+15:=by unfold BV;rw[Zc,bz]
def JQ (p k b s:Int):Bool:=spOk p k b&&inR s 0 (slN k-1)
def aaI (p k b s:Int):Int:=if JQ p k b s=true then p*16+s*clsSz k else-1
def lhB (p n s a:Int):Bool:=lgOk p n s&&inR a (p*16) (p*16+s-1)
def loI (p n s a:Int):Int:=if lhB p n s a=true then a-p*16 else-1
theorem H3 {p n s a:Int}(h:lgOk p n s=false):lhB p n s a=false:=by unfold lhB;rw[h];rfl
theorem CI {p n s a:Int}(h:lgOk p n s=true):lhB p n s a=inR a (p*16) (p*16+s-1):=by unfold lhB;rw[h];rfl
theorem Tj {p n s a:Int}(h:lhB p n s a=false):loI p n s a= -1:=by unfold loI;rw[h];rfl
theorem O0 {p n s a:Int}(h:lhB p n s a=true):loI p n s a=a-p*16:=by unfold loI;rw[VN h]
theorem CM {a b:Int}(h: -9223372036854775808<=a*b/\a*b<=9223372036854775807):bK .mul Za a b=a*b:=YT _ h
theorem aac {p:Int}(h:0<=p/\p<=31):bK .mul Za p 16=p*16/\bK .sub Za (bK .add Za (p*16) 16) 1=p*16+15:=by
 have e1:bK .mul Za p 16=p*16:=CM (by omega);have e2:bK .add Za (p*16) 16=p*16+16:=bT (by omega);have e3:bK .sub Za (p*16+16) 1=p*16+16-1:=fG (by omega);rw[e1,e2,e3];omega
theorem Lb {p k b a:Int}(h:spOk p k b=true)(h1:inR a (p*16) (p*16+15)=true):saS p k b a=bK .quo Za (bK .sub Za a (p*16)) (clsSz k)/\saO p k b a=bK .rem Za (bK .sub Za a (p*16)) (clsSz k):=by
 have t:=lL h;have q:=bz.1 h1;have c:=jr t.2.2.1;have y:=wq (Bi.2 ⟨h,q⟩);have e:bK .sub Za a (p*16)=a-p*16:=fG (by omega);rw[y.1,y.2,e,v9 (by omega) (by omega) (by omega),wg (by omega)];exact⟨rfl,rfl⟩
theorem M2 {p k b a:Int}(h:spOk p k b=false):BV p k b a=false:=by unfold BV;rw[h];rfl
theorem aaR {p k b a:Int}(h:inR a (p*16) (p*16+15)=false):BV p k b a=false:=by unfold BV;rw[h,Z4]
theorem Lc {p k b a:Int}(h:spOk p k b=true)(h0:¬ a<0)(h1:bK .quo Za a 16=p)(ha:a<=9223372036854775807):saS p k b a=bK .quo Za (bK .rem Za a 16) (clsSz k)/\saO p k b a=bK .rem Za (bK .rem Za a 16) (clsSz k):=by
 have t:=lL h;have c:=jr t.2.2.1;rw[v9 (by omega) ha (by omega)]at h1;have e:bK .rem Za a 16=a%16:=wg (by omega);have y:=wq (Bi.2 ⟨h,show p*16<=a/\a<=p*16+15 by omega⟩);rw[y.1,y.2,e,v9 (by omega) (by omega) (by omega),wg (by omega),show a-p*16=a%16 by omega];exact⟨rfl,rfl⟩
theorem M3 {p k b a:Int}(h0:a<0\/bK .quo Za a 16≠p)(ha:a<=9223372036854775807):BV p k b a=false:=by
 cases q:BV p k b a
 ·rfl
 ·obtain⟨h,h1⟩:=Bi.1 q;have t:=lL h;rcases h0 with h0|h0;omega
  ·rw[v9 (by omega) ha (by omega)]at h0;omega
theorem NC {p k b s:Int}(h:spOk p k b=true)(h1:inR s 0 (slN k-1)=true):bK .add Za (bK .mul Za p 16) (bK .mul Za s (clsSz k))=aaI p k b s:=by
 have t:=lL h;have c:=jr t.2.2.1;have q:=bz.1 h1;have m1:0<=s*clsSz k:=Int.mul_nonneg q.1 (by omega);have m2:s*clsSz k<=(slN k-1)*clsSz k:=Int.mul_le_mul_of_nonneg_right q.2 (by omega);have m3:(slN k-1)*clsSz k=16-clsSz k:=by rw[Int.sub_mul,c.2.2.2.2,Int.one_mul]
 have e:bK .mul Za s (clsSz k)=s*clsSz k:=CM (by omega);rw[(aac ⟨t.1,t.2.1⟩).1,e];unfold aaI JQ;rw[h,h1];exact bT (by omega)
theorem LJ {p k b s:Int}(h:spOk p k b=false\/inR s 0 (slN k-1)=false):aaI p k b s= -1:=by
 unfold aaI JQ;rcases h with h|h
 ·rw[h];rfl
 ·rw[h,Z4];rfl
theorem H2 {p n s:Int}(h:lgOk p n s=true):bK .mul Za p 16=p*16/\bK .add Za (bK .mul Za p 16) s=p*16+s/\bK .sub Za (bK .add Za (bK .mul Za p 16) s) 1=p*16+s-1:=by
 have t:=k7 h;have b:=ku t.1;have q:=bz.1 t.1;have e1:bK .mul Za p 16=p*16:=CM (by omega);have e2:bK .add Za (p*16) s=p*16+s:=bT (by omega);have e3:bK .sub Za (p*16+s) 1=p*16+s-1:=fG (by omega);rw[e1,e2,e3];exact⟨rfl,rfl,rfl⟩
theorem OW {p n s a:Int}:lhB p n s a=true↔lgOk p n s=true/\p*16<=a/\a<=p*16+s-1:=by unfold lhB;rw[Zc,bz]
theorem Ti {p n s a:Int}(h:lhB p n s a=true):bK .sub Za a (bK .mul Za p 16)=loI p n s a:=by
 obtain⟨h1,h2,h3⟩:=OW.1 h;have t:=k7 h1;have b:=ku t.1;have q:=bz.1 t.1;rw[(H2 h1).1,O0 h];exact fG (by omega)
end Go.V
namespace Go.V
def hH (l:List Int):af:=l.map fun x=>[.i x]
theorem cn {l:List Int}:(hH l).length=l.length:=by unfold hH;rw[List.length_map]
theorem gw {a b:List Int}:hH (a++b)=hH a++hH b:=by unfold hH;rw[List.map_append]
theorem rU {l:List Int}{k:Nat}(h:k<l.length):ag (hH l) k 0=l[k]:=by
 have e:(hH l).getD k []=[.i l[k]]:=by
  unfold hH;rw[Zo,List.getElem?_map,Zs h];rfl
 unfold ag;rw[ZE,e];rfl
theorem oD {l:List Int}{x:Int}:hasB (hH l) x=true↔x∈l:=by
 rw[DU]
 constructor
 ·rintro⟨k,hk,e⟩;rw[cn]at hk;rw[rU hk]at e;rw[<-e];exact List.getElem_mem hk
 ·intro h;obtain⟨k,hk,e⟩:=List.getElem_of_mem h;exact⟨k,by rw[cn];exact hk,by rw[rU hk];exact e⟩
theorem uf {l:List Int}{x:Int}(h:hasB (hH l) x=false):x∉l:=fun m=>by rw[oD.2 m]at h;cases h
theorem rV {l:List Int}(h:∀ x∈l,-9223372036854775808<=x/\x<=9223372036854775807)(hl:l.length<=70368744177664):Rw [tI] (hH l):=by
 refine⟨by rw[cn];unfold maxLen;omega,fun e he=>?_⟩;obtain⟨x,hx,rfl⟩:=List.mem_map.1 he;have q:=h x hx;exact⟨⟨rfl,by show-9223372036854775808<=x/\x<=(9223372036854775807:Int);exact q⟩,trivial⟩
theorem Oa {l:af}{x i:Int}(h:upto (bR (Gc l x)) i)(hi:(l.length:Int)<=i):hasB l x=false:=by
 unfold hasB idxI;rw[dF h hi];rfl
def M6 (sp:af)(i:Int):Bool:=spOk (ag sp i 0) (ag sp i 1) (ag sp i 2)
def OV (lg:af)(i:Int):Bool:=lgOk (ag lg i 0) (ag lg i 1) (ag lg i 2)
def lm (sp:af):Nat->List Int
 |0=>[]
 |n+1=>lm sp n++[ag sp n 0]
def oK (p:Int):Nat->List Int
 |0=>[]
 |n+1=>oK p n++[p+n]
def li (lg:af):Nat->List Int
 |0=>[]
 |n+1=>li lg n++oK (ag lg n 0) (ag lg n 1).toNat
def v7 (sp lg:af):List Int:=lm sp sp.length++li lg lg.length
def layOk (sp lg:af):Bool:=(cH (M6 sp) sp.length&&cH (OV lg) lg.length)&&decide (v7 sp lg).Nodup
theorem oc {sp:af}{i:Int}(h:0<=i):lm sp (i+1).toNat=lm sp i.toNat++[ag sp i 0]:=by
 rw[show(i+1).toNat=i.toNat+1 from by omega,lm,Zp h]
theorem pI {lg:af}{i:Int}(h:0<=i):li lg (i+1).toNat=li lg i.toNat++oK (ag lg i 0) (ag lg i 1).toNat:=by
 rw[show(i+1).toNat=i.toNat+1 from by omega,li,Zp h]
theorem v8 {p i:Int}(h:0<=i):oK p (i+1).toNat=oK p i.toNat++[p+i]:=by
 rw[show(i+1).toNat=i.toNat+1 from by omega,oK,Zp h]
theorem oN {sp:af}:∀ {n:Nat},(lm sp n).length=n
 |0=>rfl
 |n+1=>by rw[lm,Ze,oN];rfl
theorem qG {p:Int}:∀ {n:Nat},(oK p n).length=n
 |0=>rfl
 |n+1=>by rw[oK,Ze,qG];rfl
theorem E0 {sp:af}:∀ (m n:Nat),n<=m->∃ r,lm sp m=lm sp n++r
 |0,n,h=>⟨[],by rw[show n=0 by omega];rfl⟩
 | m+1,n,h=>by
   by_cases c:n=m+1
   ·subst c;exact⟨[],by simp⟩
   ·obtain⟨r,e⟩:=E0 (sp:=sp) m n (by omega);exact⟨r++[ag sp m 0],by rw[lm,e,Zi]⟩
theorem EF {p:Int}:∀ (m n:Nat),n<=m->∃ r,oK p m=oK p n++r
 |0,n,h=>⟨[],by rw[show n=0 by omega];rfl⟩
 | m+1,n,h=>by
   by_cases c:n=m+1
   ·subst c;exact⟨[],by simp⟩
   ·obtain⟨r,e⟩:=EF (p:=p) m n (by omega);exact⟨r++[p+m],by rw[oK,e,Zi]⟩
theorem Ef {lg:af}:∀ (m n:Nat),n<=m->∃ r,li lg m=li lg n++r
 |0,n,h=>⟨[],by rw[show n=0 by omega];rfl⟩
 | m+1,n,h=>by
   by_cases c:n=m+1
   ·subst c;exact⟨[],by simp⟩
   ·obtain⟨r,e⟩:=Ef (lg:=lg) m n (by omega);exact⟨r++oK (ag lg m 0) (ag lg m 1).toNat,by rw[li,e,Zi]⟩
theorem dup {a b l:List Int}{x:Int}(h:l=a++x::b)(hm:x∈a):¬ l.Nodup:=by
 rw[h,Zu];rintro⟨_,_,q⟩;exact q x hm x (by simp) rfl
theorem kG {a:List Int}{x:Int}(h:a.Nodup)(hx:x∉a):(a++[x]).Nodup:=by
 rw[Zu];exact⟨h,by simp,fun y hy z hz e=>by simp at hz;subst hz;subst e;exact hx hy⟩
theorem D7 {sp lg:af}{i:Int}(h0:0<=i)(h1:i<sp.length)(h:spOk (ag sp i 0) (ag sp i 1) (ag sp i 2)=false):layOk sp lg=false:=by
 unfold layOk;rw[bP h0 h1 h];rfl
theorem D8 {sp lg:af}{i:Int}(h0:0<=i)(h1:i<lg.length)(h:lgOk (ag lg i 0) (ag lg i 1) (ag lg i 2)=false):layOk sp lg=false:=by
 unfold layOk;rw[bP (p:=OV lg) h0 h1 h,Z4];rfl
theorem D9 {sp lg:af}{i:Int}(h0:0<=i)(h1:i<sp.length)(h:ag sp i 0∈lm sp i.toNat):layOk sp lg=false:=by
 obtain⟨r,e⟩:=E0 (sp:=sp) sp.length (i+1).toNat (by omega);rw[oc h0,Zi]at e;have:¬ (v7 sp lg).Nodup:=dup (a:=lm sp i.toNat) (b:=r++li lg lg.length) (x:=ag sp i 0) (by unfold v7;rw[e,Zi];rfl) h;unfold layOk;rw[VL this,Z4]
theorem Ea {sp lg:af}{i k:Int}(h0:0<=i)(h1:i<lg.length)(k0:0<=k)(k1:k<ag lg i 1)(h:ag lg i 0+k∈lm sp sp.length++li lg i.toNat++oK (ag lg i 0) k.toNat):layOk sp lg=false:=by
 obtain⟨r,e⟩:=Ef (lg:=lg) lg.length (i+1).toNat (by omega);obtain⟨r2,e2⟩:=EF (p:=ag lg i 0) (ag lg i 1).toNat (k+1).toNat (by omega);rw[pI h0,e2,v8 k0]at e;have:¬ (v7 sp lg).Nodup:=dup (a:=lm sp sp.length++li lg i.toNat++oK (ag lg i 0) k.toNat) (b:=r2++r) (x:=ag lg i 0+k) (by unfold v7;rw[e];simp only[Zi];rfl) h;unfold layOk;rw[VL this,Z4]
theorem Eb {sp lg:af}{i j:Int}(h:upto (M6 sp) i)(hi:(sp.length:Int)<=i)(h2:upto (OV lg) j)(hj:(lg.length:Int)<=j)(hn:(v7 sp lg).Nodup):layOk sp lg=true:=by
 unfold layOk;rw[bJ h hi,bJ h2 hj,VK hn];rfl
theorem HP {sp lg:af}(h:layOk sp lg=true):(∀ i:Int,0<=i->i<sp.length->spOk (ag sp i 0) (ag sp i 1) (ag sp i 2)=true)/\(∀ i:Int,0<=i->i<lg.length->lgOk (ag lg i 0) (ag lg i 1) (ag lg i 2)=true)/\(v7 sp lg).Nodup:=by
 unfold layOk at h;simp only[Zc,VM]at h;exact⟨dp.1 h.1.1,dp.1 h.1.2,h.2⟩
def QF (es:af):Prop:=∀ e∈es,∃ (k:Int) (b:Bool),e=[.i k,.v (.bool b)]
theorem vR {k:Int}{b:Bool}{es:af}{n:Int}:ed ([.i k,.v (.bool b)]::es) n=if k=n then some (0,.bool b)else(ed es n).map fun p=>(p.1+1,p.2):=rfl
theorem nK {k:Int}{b:Bool}{es:af}{n:Int}:mgbI ([.i k,.v (.bool b)]::es) n=if k=n then b else mgbI es n:=by
 unfold mgbI;rw[vR];by_cases c:k=n
 ·rw[VN c,VN c]
 ·rw[VO c,VO c];cases ed es n with
  |none=>rfl
  |some p=>obtain⟨j,v⟩:=p;cases v<;>rfl
theorem En {k:Int}{b x:Bool}{es:af}{n:Int}:lP ([.i k,.v (.bool b)]::es) n (.v (.bool x))=if k=n then[.i n,.v (.bool x)]::es else[.i k,.v (.bool b)]::lP es n (.v (.bool x)):=by
 unfold lP;rw[vR];by_cases c:k=n
 ·rw[VN c,VN c];rfl
 ·rw[VO c,VO c];cases ed es n with
  |none=>rfl
  |some p=>rfl
theorem mub {x:Bool}{n:Int}:∀ {es:af},QF es->QF (lP es n (.v (.bool x)))/\∀ m,mgbI (lP es n (.v (.bool x))) m=if m=n then x else mgbI es m
 | [],_=>by
   refine⟨fun e he=>?_,fun m=>?_⟩
   ·have:e=[.i n,.v (.bool x)]:=by simpa[lP,ed]using he
    exact⟨n,x,this⟩
   ·show mgbI [[.i n,.v (.bool x)]] m=_;rw[nK];by_cases c:m=n
    ·rw[VN c.symm,VN c]
    ·rw[VO (fun e=>c e.symm),VO c]
 | e::es,h=>by
   obtain⟨k,b,rfl⟩:=h e (by simp);have h':QF es:=fun e he=>h e (by simp[he])
   obtain⟨a1,a2⟩:=mub (x:=x) (n:=n) h';rw[En];by_cases c:k=n
   ·rw[VN c];refine⟨fun e he=>?_,fun m=>?_⟩
    ·rcases Zk.1 he with rfl|he;exact⟨n,x,rfl⟩;exact h' e he
    ·rw[nK,nK];by_cases d:m=n
     ·rw[VN d.symm,VN d]
     ·rw[VO (fun e=>d e.symm),VO d,VO (fun e=>d (by rw[<-e,c]))]
   ·rw[VO c];refine⟨fun e he=>?_,fun m=>?_⟩
    ·rcases Zk.1 he with rfl|he;exact⟨k,b,rfl⟩;exact a1 e he
    ·rw[nK,nK,a2 m];by_cases d:k=m
     ·rw[VN d,VN d,VO (fun e=>c (d.trans e))]
     ·rw[VO d,VO d]
def muT (es:af)(n:Int):af:=lP es n (.v (.bool true))
structure o6 (es:af)(l:List Int):Prop where
 wf:QF es
 at_:∀ m,mgbI es m=true↔m∈l
theorem C6:o6 [] []:=⟨(fun e he=>by cases he),fun m=>by simp[mgbI,ed]⟩
theorem uu {es:af}{l:List Int}{n:Int}(h:o6 es l):o6 (lP es n (.v (.bool true))) (l++[n]):=by
 have q:=mub (x:=true) (n:=n) h.wf;refine⟨q.1,fun m=>?_⟩;rw[q.2 m];by_cases c:m=n
 ·rw[VN c];simp[c]
 ·rw[VO c,h.at_ m];simp[c]
def one (x:Int):af:=[[.i x]]
structure JK (sp:af)(i:Int)(o:af):Prop where
 e:o=hH (lm sp i.toNat)
 nd:(lm sp i.toNat).Nodup
 ok:upto (M6 sp) i
 b:∀ x∈lm sp i.toNat,0<=x/\x<=64
structure Qy (sp lg:af)(j:Int)(o:af):Prop where
 e:o=hH (lm sp sp.length++li lg j.toNat)
 nd:(lm sp sp.length++li lg j.toNat).Nodup
 oks:upto (M6 sp) sp.length
 ok:upto (OV lg) j
 b:∀ x∈lm sp sp.length++li lg j.toNat,0<=x/\x<=64
 l:(li lg j.toNat).length<=64*j.toNat
structure JJ (sp lg:af)(j k:Int)(o:af):Prop where
 e:o=hH (lm sp sp.length++li lg j.toNat++oK (ag lg j 0) k.toNat)
 nd:(lm sp sp.length++li lg j.toNat++oK (ag lg j 0) k.toNat).Nodup
 oks:upto (M6 sp) sp.length
 ok:upto (OV lg) j
 b:∀ x∈lm sp sp.length++li lg j.toNat++oK (ag lg j 0) k.toNat,0<=x/\x<=64
 l:(li lg j.toNat).length<=64*j.toNat
theorem GE {l:List Int}(h:∀ x∈l,0<=x/\x<=64)(hl:l.length<=70368744177664):Rw [tI] (hH l):=rV (fun x hx=>by have:=h x hx;omega) hl
theorem AA {l:List Int}{x:Int}(h:∀ x∈l,0<=x/\x<=64)(hx:0<=x/\x<=64):∀ y∈l++[x],0<=y/\y<=64:=by
 intro y hy;rcases Zg.1 hy with q|q;exact h y q
 ·simp at q;rw[q];exact hx
theorem adh {sp:af}:JK sp 0 []:=⟨rfl,ZK,bD,fun x hx=>by cases hx⟩
theorem H5 {sp o:af}{i:Int}(h:JK sp i o):o.length=i.toNat:=by rw[h.e,cn,oN]
theorem Tl {sp o:af}{i:Int}(h:JK sp i o)(hi:i<=1073741824):Rw [tI] o:=by
 have l:=H5 h;have e:=h.e;rw[e,cn]at l;rw[e];exact GE h.b (by omega)
theorem O1 {sp lg o:af}{i:Int}(h:JK sp i o)(h0:0<=i)(h1:i<sp.length)(hh:hasB o (ag sp i 0)=true):layOk sp lg=false:=by
 rw[h.e,oD]at hh;exact D9 h0 h1 hh
theorem Tm {sp o:af}{i:Int}(h:JK sp i o)(h0:0<=i)(hs:spOk (ag sp i 0) (ag sp i 1) (ag sp i 2)=true)(hh:hasB o (ag sp i 0)=false):JK sp (i+1) (o++[[.i (ag sp i 0)]]):=by
 have t:=lL hs;have e:=h.e;rw[e]at hh;have hm:=uf hh;exact⟨by rw[oc h0,gw,e];rfl,by rw[oc h0];exact kG h.nd hm,aU h.ok hs,by rw[oc h0];exact AA h.b (by omega)⟩
theorem O2 {sp lg o:af}{i:Int}(h:JK sp i o)(h1:i<=sp.length)(h2:(sp.length:Int)<=i):Qy sp lg 0 o:=by
 have e:i.toNat=sp.length:=by omega
 have ei:i=sp.length:=by omega
 have q1:=h.e;have q2:=h.nd;have q3:=h.ok;have q4:=h.b;rw[e]at q1 q2 q4;rw[ei]at q3;exact⟨by rw[q1];simp[li],by simpa[li]using q2,q3,bD,by simpa[li]using q4,by simp[li]⟩
theorem adg {sp lg o:af}{j:Int}(h:Qy sp lg j o):JJ sp lg j 0 o:=by
 refine⟨by rw[h.e];simp[oK],by simpa[oK]using h.nd,h.oks,h.ok,by simpa[oK]using h.b,h.l⟩
theorem H4 {sp lg o:af}{j k:Int}(h:JJ sp lg j k o):o.length<=sp.length+64*j.toNat+k.toNat:=by
 have l:=h.l;rw[h.e,cn,Ze,Ze,oN,qG];omega
theorem Tf {sp lg o:af}{j k:Int}(h:JJ sp lg j k o)(h1:sp.length<=1073741824)(h2:j<=1073741824)(h3:k<=64):Rw [tI] o:=by
 have l:=H4 h;have e:=h.e;rw[e,cn]at l;rw[e];exact GE h.b (by omega)
theorem OX {sp lg o:af}{j k:Int}(h:JJ sp lg j k o)(h0:0<=j)(h1:j<lg.length)(k0:0<=k)(k1:k<ag lg j 1)(hh:hasB o (ag lg j 0+k)=true):layOk sp lg=false:=by
 rw[h.e,oD]at hh;exact Ea h0 h1 k0 k1 hh
theorem Te {p n s k:Int}(h:lgOk p n s=true)(k0:0<=k)(k1:k<n):0<=p/\p+k<=32/\bK .add Za p k=p+k/\1<=n/\n<=32:=by
 have t:=k7 h;have b:=ku t.1;have e:bK .add Za p k=p+k:=bT (by omega);exact⟨by omega,by omega,e,by omega,by omega⟩
theorem Tg {sp lg o:af}{j k:Int}(h:JJ sp lg j k o)(k0:0<=k)(hx:0<=ag lg j 0+k/\ag lg j 0+k<=64)(hh:hasB o (ag lg j 0+k)=false):JJ sp lg j (k+1) (o++[[.i (ag lg j 0+k)]]):=by
 have e:=h.e;rw[e]at hh;have hm:=uf hh;have q:∀ A:List Int,A++oK (ag lg j 0) (k+1).toNat=A++oK (ag lg j 0) k.toNat++[ag lg j 0+k]:=fun A=>by rw[v8 k0,Zi]
 exact⟨by rw[q,gw,e];rfl,by rw[q];exact kG h.nd hm,h.oks,h.ok,by rw[q];exact AA h.b hx,h.l⟩
theorem OY {sp lg o:af}{j k:Int}(h:JJ sp lg j k o)(j0:0<=j)(hl:lgOk (ag lg j 0) (ag lg j 1) (ag lg j 2)=true)(k0:0<=k)(k1:k<=ag lg j 1)(k2:ag lg j 1<=k):Qy sp lg (j+1) o:=by
 have t:=k7 hl;have b:=ku t.1;have ek:k.toNat=(ag lg j 1).toNat:=by omega
 have q1:=h.e;have q2:=h.nd;have q4:=h.b;have q5:=h.l;rw[ek,Zi, <-pI j0]at q1 q2 q4;refine⟨q1,q2,h.oks,aU h.ok hl,q4,?_⟩;rw[pI j0,Ze,qG];omega
theorem OZ {sp lg o:af}{j:Int}(h:Qy sp lg j o)(j1:j<=lg.length)(j2:(lg.length:Int)<=j):layOk sp lg=true:=by
 have e:j.toNat=lg.length:=by omega
 have q:=h.nd;rw[e]at q;exact Eb h.oks (Yd _) h.ok j2 q
end Go.V
namespace Go.V
structure Nq (sp:af)(i:Int)(es:af):Prop where
 s:o6 es (lm sp i.toNat)
 nd:(lm sp i.toNat).Nodup
 ok:upto (M6 sp) i
structure Qx (sp lg:af)(j:Int)(es:af):Prop where
 s:o6 es (lm sp sp.length++li lg j.toNat)
 nd:(lm sp sp.length++li lg j.toNat).Nodup
 oks:upto (M6 sp) sp.length
 ok:upto (OV lg) j
structure IkP (sp lg:af)(j k:Int)(es:af):Prop where
 s:o6 es (lm sp sp.length++li lg j.toNat++oK (ag lg j 0) k.toNat)
 nd:(lm sp sp.length++li lg j.toNat++oK (ag lg j 0) k.toNat).Nodup
 oks:upto (M6 sp) sp.length
 ok:upto (OV lg) j
theorem IY {es:af}{l:List Int}{n:Int}(h:o6 es l)(e:mgbI es n=false):n∉l:=fun m=>by rw[(h.at_ n).2 m]at e;cases e
theorem acY {sp:af}:Nq sp 0 []:=⟨C6,ZK,bD⟩
theorem OI {sp lg es:af}{i:Int}(h:Nq sp i es)(h0:0<=i)(h1:i<sp.length)(hh:mgbI es (ag sp i 0)=true):layOk sp lg=false:=
 D9 h0 h1 ((h.s.at_ _).1 hh)
theorem SN {sp es:af}{i:Int}(h:Nq sp i es)(h0:0<=i)(hs:spOk (ag sp i 0) (ag sp i 1) (ag sp i 2)=true)(hh:mgbI es (ag sp i 0)=false):Nq sp (i+1) (muT es (ag sp i 0)):=
 ⟨by rw[oc h0];exact uu h.s,by rw[oc h0];exact kG h.nd (IY h.s hh),aU h.ok hs⟩
theorem OJ {sp lg es:af}{i:Int}(h:Nq sp i es)(h1:i<=sp.length)(h2:(sp.length:Int)<=i):Qx sp lg 0 es:=by
 have e:i.toNat=sp.length:=by omega
 have ei:i=sp.length:=by omega
 have q1:=h.s;have q2:=h.nd;have q3:=h.ok;rw[e]at q1 q2;rw[ei]at q3;exact⟨by simpa[li]using q1,by simpa[li]using q2,q3,bD⟩
theorem acW {sp lg es:af}{j:Int}(h:Qx sp lg j es):IkP sp lg j 0 es:=
 ⟨by simpa[oK]using h.s,by simpa[oK]using h.nd,h.oks,h.ok⟩
theorem OA {sp lg es:af}{j k:Int}(h:IkP sp lg j k es)(h0:0<=j)(h1:j<lg.length)(k0:0<=k)(k1:k<ag lg j 1)(hh:mgbI es (ag lg j 0+k)=true):layOk sp lg=false:=
 Ea h0 h1 k0 k1 ((h.s.at_ _).1 hh)
theorem SI {sp lg es:af}{j k:Int}(h:IkP sp lg j k es)(k0:0<=k)(hh:mgbI es (ag lg j 0+k)=false):IkP sp lg j (k+1) (muT es (ag lg j 0+k)):=by
 have q:∀ A:List Int,A++oK (ag lg j 0) (k+1).toNat=A++oK (ag lg j 0) k.toNat++[ag lg j 0+k]:=fun A=>by rw[v8 k0,Zi]
 exact⟨by rw[q];exact uu h.s,by rw[q];exact kG h.nd (IY h.s hh),h.oks,h.ok⟩
theorem OB {sp lg es:af}{j k:Int}(h:IkP sp lg j k es)(j0:0<=j)(hl:lgOk (ag lg j 0) (ag lg j 1) (ag lg j 2)=true)(k1:k<=ag lg j 1)(k2:ag lg j 1<=k):Qx sp lg (j+1) es:=by
 have ek:k.toNat=(ag lg j 1).toNat:=by omega
 have q1:=h.s;have q2:=h.nd;rw[ek,Zi, <-pI j0]at q1 q2;exact⟨q1,q2,h.oks,aU h.ok hl⟩
theorem OC {sp lg es:af}{j:Int}(h:Qx sp lg j es)(j1:j<=lg.length)(j2:(lg.length:Int)<=j):layOk sp lg=true:=by
 have e:j.toNat=lg.length:=by omega
 have q:=h.nd;rw[e]at q;exact Eb h.oks (Yd _) h.ok j2 q
theorem TJ {b:Bool}(h:(!b)=false):b=true:=by cases b<;>simp_all
theorem TK {b:Bool}(h:(!b)=true):b=false:=by cases b<;>simp_all
end Go.V
namespace Go.V
def zA (sp:af)(a i:Int):Bool:=decide (0<=saS (ag sp i 0) (ag sp i 1) (ag sp i 2) a)
def A0 (lg:af)(a i:Int):Bool:=lhB (ag lg i 0) (ag lg i 1) (ag lg i 2) a
def lO (sp:af)(a:Int):Int:=cR (zA sp a) sp.length
def xx (lg:af)(a:Int):Int:=cR (A0 lg a) lg.length
def JB (sp:af)(a i:Int):Int:=saS (ag sp i 0) (ag sp i 1) (ag sp i 2) a
def QO (sp:af)(a i:Int):Int:=saO (ag sp i 0) (ag sp i 1) (ag sp i 2) a
def loA (lg:af)(a i:Int):Int:=loI (ag lg i 0) (ag lg i 1) (ag lg i 2) a
def dnK (sp lg:af)(a:Int):Int:=if 0<=lO sp a then(if hsB (ag sp (lO sp a) 2) (JB sp a (lO sp a))then 1 else 2)else if 0<=xx lg a then 3 else 0
def dnI (sp lg:af)(a:Int):Int:=if 0<=lO sp a then lO sp a else if 0<=xx lg a then xx lg a else 0
def dnS (sp:af)(a:Int):Int:=if 0<=lO sp a then JB sp a (lO sp a)else 0
def dnO (sp lg:af)(a:Int):Int:=if 0<=lO sp a then QO sp a (lO sp a)else if 0<=xx lg a then loA lg a (xx lg a)else 0
def dzK (sp lg:af)(a:Int):Int:=if layOk sp lg then dnK sp lg a else 0
def dzI (sp lg:af)(a:Int):Int:=if layOk sp lg then dnI sp lg a else 0
def dzS (sp lg:af)(a:Int):Int:=if layOk sp lg then dnS sp a else 0
def dzO (sp lg:af)(a:Int):Int:=if layOk sp lg then dnO sp lg a else 0
theorem aaQ {sp:af}{a i:Int}(h:upto (bR (zA sp a)) i)(hs:saS (ag sp i 0) (ag sp i 1) (ag sp i 2) a<0):upto (bR (zA sp a)) (i+1):=
 aU h (by unfold bR zA;rw[VL (by omega)];rfl)
theorem SX {lg:af}{a i:Int}(h:upto (bR (A0 lg a)) i)(hs:lhB (ag lg i 0) (ag lg i 1) (ag lg i 2) a=false):upto (bR (A0 lg a)) (i+1):=
 aU h (by unfold bR A0;rw[hs];rfl)
theorem Mh {sp:af}{a i:Int}(h:upto (bR (zA sp a)) i)(h0:0<=i)(h1:i<sp.length)(hs:0<=saS (ag sp i 0) (ag sp i 1) (ag sp i 2) a):lO sp a=i:=
 dE h h0 h1 (VK hs)
theorem Mi {sp:af}{a i:Int}(h:upto (bR (zA sp a)) i)(h1:(sp.length:Int)<=i):lO sp a= -1:=dF h h1
theorem RF {lg:af}{a i:Int}(h:upto (bR (A0 lg a)) i)(h0:0<=i)(h1:i<lg.length)(hs:lhB (ag lg i 0) (ag lg i 1) (ag lg i 2) a=true):xx lg a=i:=
 dE h h0 h1 hs
theorem RG {lg:af}{a i:Int}(h:upto (bR (A0 lg a)) i)(h1:(lg.length:Int)<=i):xx lg a= -1:=dF h h1
def Px (k i s o:Int):List DV:=[DV.agg [.i k,.i i,.i s,.i o]]
def Jw (sp lg:af)(a:Int):List DV:=Px (dnK sp lg a) (dnI sp lg a) (dnS sp a) (dnO sp lg a)
def dzL (sp lg:af)(a:Int):List DV:=Px (dzK sp lg a) (dzI sp lg a) (dzS sp lg a) (dzO sp lg a)
theorem ow1 {sp lg:af}{a i:Int}(h:upto (bR (zA sp a)) i)(h0:0<=i)(h1:i<sp.length)(hs:0<=saS (ag sp i 0) (ag sp i 1) (ag sp i 2) a)(hh:hsB (ag sp i 2) (saS (ag sp i 0) (ag sp i 1) (ag sp i 2) a)=true):
 Px 1 i (saS (ag sp i 0) (ag sp i 1) (ag sp i 2) a) (saO (ag sp i 0) (ag sp i 1) (ag sp i 2) a)=Jw sp lg a:=by
 have e:=Mh h h0 h1 hs;unfold Jw dnK dnI dnS dnO JB QO;rw[e,VN h0,VN h0,VN h0,VN h0,hh];rfl
theorem ow2 {sp lg:af}{a i:Int}(h:upto (bR (zA sp a)) i)(h0:0<=i)(h1:i<sp.length)(hs:0<=saS (ag sp i 0) (ag sp i 1) (ag sp i 2) a)(hh:hsB (ag sp i 2) (saS (ag sp i 0) (ag sp i 1) (ag sp i 2) a)=false):
 Px 2 i (saS (ag sp i 0) (ag sp i 1) (ag sp i 2) a) (saO (ag sp i 0) (ag sp i 1) (ag sp i 2) a)=Jw sp lg a:=by
 have e:=Mh h h0 h1 hs;unfold Jw dnK dnI dnS dnO JB QO;rw[e,VN h0,VN h0,VN h0,VN h0,hh];rfl
theorem ow3 {sp lg:af}{a i j:Int}(h:upto (bR (zA sp a)) i)(h1:(sp.length:Int)<=i)(g:upto (bR (A0 lg a)) j)(j0:0<=j)(j1:j<lg.length)(hh:lhB (ag lg j 0) (ag lg j 1) (ag lg j 2) a=true):
 Px 3 j 0 (loI (ag lg j 0) (ag lg j 1) (ag lg j 2) a)=Jw sp lg a:=by
 have e:=Mi h h1;have f:=RF g j0 j1 hh;have n:¬ (0:Int)<= -1:=by omega
 unfold Jw dnK dnI dnS dnO loA;rw[e,f,VO n,VO n,VO n,VO n,VN j0,VN j0,VN j0]
theorem ow4 {sp lg:af}{a i j:Int}(h:upto (bR (zA sp a)) i)(h1:(sp.length:Int)<=i)(g:upto (bR (A0 lg a)) j)(j1:(lg.length:Int)<=j):
 Px 0 0 0 0=Jw sp lg a:=by
 have e:=Mi h h1;have f:=RG g j1;have n:¬ (0:Int)<= -1:=by omega
 unfold Jw dnK dnI dnS dnO;rw[e,f,VO n,VO n,VO n,VO n,VO n,VO n,VO n]
theorem Kf {sp lg:af}{a:Int}(h:layOk sp lg=true):Jw sp lg a=dzL sp lg a:=by
 unfold dzL Jw dzK dzI dzS dzO;rw[VN h,VN h,VN h,VN h]
theorem acs {sp lg:af}{a:Int}(h:layOk sp lg=false):Px 0 0 0 0=dzL sp lg a:=by
 have n:¬ layOk sp lg=true:=by rw[h];decide
 unfold dzL dzK dzI dzS dzO;rw[VO n,VO n,VO n,VO n]
end Go.V
namespace Go.V
def tP (sp lg:af)(a:Int):Bool:=decide (dzO sp lg a=0)&&(decide (dzK sp lg a=1)||decide (dzK sp lg a=3))
def Jy (sp lg:af):Nat->af
 |0=>[]
 |n+1=>Jy sp lg n++(if tP sp lg n then[[.i n]]else[])
def laL (sp lg:af):af:=if layOk sp lg then Jy sp lg 512 else[]
structure JI (sp lg:af)(i:Int)(o:af):Prop where
 e:o=Jy sp lg i.toNat
 l:o.length<=i.toNat
 y:0<i->layOk sp lg=true
theorem ade {sp lg:af}:JI sp lg 0 []:=⟨rfl,Zf _,fun h=>absurd h (by omega)⟩
theorem HM {sp lg:af}{i:Int}(h:0<=i):Jy sp lg (i+1).toNat=Jy sp lg i.toNat++(if tP sp lg i then[[.i i]]else[]):=by
 rw[show(i+1).toNat=i.toNat+1 from by omega,Jy,Zp h]
theorem HO {sp lg o:af}{i:Int}(h:JI sp lg i o)(h0:0<=i)(hl:layOk sp lg=true)(hv:tP sp lg i=true):JI sp lg (i+1) (o++[[.i i]]):=by
 have e:=h.e;have l:=h.l;refine⟨by rw[HM h0,VN hv, <-e],?_,fun _=>hl⟩;rw[Ze,Zr,List.length_nil];omega
theorem Mw {sp lg o:af}{i:Int}(h:JI sp lg i o)(h0:0<=i)(hl:layOk sp lg=true)(hv:tP sp lg i=false):JI sp lg (i+1) o:=by
 have e:=h.e;have l:=h.l;refine⟨by rw[HM h0,hv, <-e];simp,?_,fun _=>hl⟩;omega
theorem OO {sp lg o:af}{i:Int}(h:JI sp lg i o)(h1:i<=512)(h2:512<=i):o=laL sp lg:=by
 have e:i=512:=by omega
 subst e;unfold laL;rw[VN (h.y (by omega))];exact h.e
theorem ON {sp lg o:af}{i:Int}(h:JI sp lg i o)(h0:0<=i)(hl:layOk sp lg=false):o=laL sp lg:=by
 have z:i=0:=by
  by_cases c:0<i
  ·have:=h.y c;rw[hl]at this;cases this
  ·omega
 subst z;unfold laL;rw[hl];exact h.e
theorem Tq {sp lg:af}{a:Int}(h:dzO sp lg a=0)(k:dzK sp lg a=1):tP sp lg a=true:=by unfold tP;rw[h,k];rfl
theorem Ts {sp lg:af}{a:Int}(h:dzO sp lg a=0)(k:dzK sp lg a=3):tP sp lg a=true:=by unfold tP;rw[h,k];rfl
theorem Tn {sp lg:af}{a:Int}(h:dzO sp lg a≠0):tP sp lg a=false:=by unfold tP;rw[VL h];rfl
theorem To {sp lg:af}{a:Int}(h:dzK sp lg a≠1)(k:dzK sp lg a≠3):tP sp lg a=false:=by unfold tP;rw[VL h,VL k,Bool.or_false,Z4]
theorem rT {a b:af}(h:a=b):[DV.one (.s 1 a)]=[DV.one (.s 1 b)]:=by rw[h]
end Go.V