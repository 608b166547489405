/- Plain facts. -/
import Derived.Test.YtniaaknbbceigaaGreatVE
set_option linter.all false
namespace Go.V
theorem cV {n:Int}(h:IntKind.has .i64 n): -9223372036854775808<=n/\n<=9223372036854775807:=h
theorem bX {i:Int}(h0:0<=i)(h1:i<9223372036854775807):bu .add .i64 i 1=i+1:=bj (by omega)
def inR (x a b:Int):Bool:=decide (a<=x)&&decide (x<=b)
theorem bE {x a b:Int}:inR x a b=true↔a<=x/\x<=b:=by simp[inR]
theorem tJ {x a b:Int}:inR x a b=false↔x<a\/b<x:=by
 cases h:inR x a b
 ·simp only[true_iff];unfold inR at h;simp only[Bool.and_eq_false_iff,decide_eq_false_iff_not]at h;omega
 ·rw[bE]at h;constructor
  ·intro q;cases q
  ·omega
def bU (p:Int->Bool)(n:Nat):Bool:=(List.range n).all fun j=>p (j:Int)
def upto (p:Int->Bool)(i:Int):Prop:=∀ j:Int,0<=j->j<i->p j=true
theorem aX {p:Int->Bool}:upto p 0:=fun j h0 h1=>absurd h1 (by omega)
theorem aP {p:Int->Bool}{i:Int}(h:upto p i)(hp:p i=true):upto p (i+1):=fun j h0 h1=>by
 by_cases q:j=i
 ·subst q;exact hp
 ·exact h j h0 (by omega)
theorem cI {p:Int->Bool}{n:Nat}:bU p n=true↔upto p n:=by
 simp only[bU,List.all_eq_true,List.mem_range];exact⟨fun h j h0 h1=>by have:=h j.toNat (by omega);rwa [Int.toNat_of_nonneg h0]at this,fun h x hx=>h x (by omega) (by omega)⟩
theorem bg {p:Int->Bool}{n:Nat}{i:Int}(h:upto p i)(hi:(n:Int)<=i):bU p n=true:=cI.2 fun j h0 h1=>h j h0 (by omega)
theorem bB {p:Int->Bool}{n:Nat}{i:Int}(h0:0<=i)(h:i<n)(hp:p i=false):bU p n=false:=by
 cases q:bU p n
 ·rfl
 ·rw[cI.1 q i h0 h]at hp;cases hp
theorem ec {a b:Bool}(h:a=true↔b=true):a=b:=by cases a<;>cases b<;>simp_all
theorem ag {a b:Bool}(h:a=b):[DV.k a]=[DV.k b]:=by rw[h]
def iR (cs us:aa)(i k:Int):Bool:=inR (af (ax cs i 0) k 0) 0 999&&(jS us i 0||decide (af (ax cs i 0) k 0=0))
def eM (cs us:aa)(i:Int):Bool:=decide ((ax cs i 0).length=16)&&bU (iR cs us i) 16
def framesOk (cs us:aa):Bool:=inR cs.length 1 32&&decide (us.length=cs.length)&&bU (eM cs us) cs.length
def ki (es:aa)(fr i:Int):Bool:=inR (af es i 0) 0 2&&decide (af es i 0=0->af es i 1=0)&&decide (0<af es i 0->0<=af es i 1/\af es i 1<fr)
def tableOk (es:aa)(fr:Int):Bool:=bU (ki es fr) es.length&&inR es.length 1 32
def uG (es:aa)(f:Int):Nat->aa
 |0=>[]
 |n+1=>if af es n 0≠0/\af es n 1=f then uG es f n++[[.i n]]else uG es f n
def pagesOn (es:aa)(f:Int):aa:=uG es f es.length
theorem xz {es:aa}{f:Int}:∀ {n:Nat},(uG es f n).length<=n
 |0=>Nat.zero_le _
 | n+1=>by
   have:=xz (es:=es) (f:=f) (n:=n);unfold uG;split
   ·rw[List.length_append];simp;omega
   ·omega
theorem Cq {es:aa}{f:Int}{n:Nat}(h0:af es n 0≠0)(h1:af es n 1=f):uG es f (n+1)=uG es f n++[[.i n]]:=by rw[uG,if_pos ⟨h0,h1⟩]
theorem Gd {es:aa}{f:Int}{n:Nat}(h:af es n 0=0\/af es n 1≠f):uG es f (n+1)=uG es f n:=by rw[uG,if_neg (by rintro⟨a,b⟩;rcases h with q|q;exact a q;exact q b)]
theorem Iw {es:aa}{f i:Int}(hi:0<=i)(h0:af es i 0≠0)(h1:af es i 1=f):uG es f (i+1).toNat=uG es f i.toNat++[[.i i]]:=by
 have e:((i.toNat:Nat):Int)=i:=Int.toNat_of_nonneg hi;rw[show(i+1).toNat=i.toNat+1 from by omega,Cq (by rw[e];exact h0) (by rw[e];exact h1),e]
theorem Gc {es:aa}{f i:Int}(hi:0<=i)(h:af es i 0=0\/af es i 1≠f):uG es f (i+1).toNat=uG es f i.toNat:=by
 have e:((i.toNat:Nat):Int)=i:=Int.toNat_of_nonneg hi;rw[show(i+1).toNat=i.toNat+1 from by omega,Gd (by rw[e];exact h)]
theorem v8 {es:aa}{f:Int}:(pagesOn es f).length<=es.length:=xz
def tO (es:aa)(f:Int):Bool:=decide (0<(pagesOn es f).length)
theorem Ib {es:aa}{f:Int}:tO es f=true↔0<(pagesOn es f).length:=by simp[tO]
theorem Lx {cs us:aa}(h:inR cs.length 1 32=false):framesOk cs us=false:=by unfold framesOk;rw[h];rfl
theorem Ly {cs us:aa}(h:us.length≠cs.length):framesOk cs us=false:=by unfold framesOk;rw[decide_eq_false h];simp
theorem LA {cs us:aa}{i:Int}(h0:0<=i)(h1:i<cs.length)(h:(ax cs i 0).length≠16):framesOk cs us=false:=by
 unfold framesOk;rw[bB h0 h1 (by unfold eM;rw[decide_eq_false h];rfl)];simp
theorem EK {cs us:aa}{i k:Int}(h0:0<=i)(h1:i<cs.length)(k0:0<=k)(k1:k<16)(h:inR (af (ax cs i 0) k 0) 0 999=false\/jS us i 0=false/\af (ax cs i 0) k 0≠0):framesOk cs us=false:=by
 unfold framesOk;rw[bB h0 h1 (by unfold eM;rw[bB k0 (by simpa using k1) (by unfold iR;rcases h with q|⟨q,q'⟩;rw[q];rfl;rw[q,decide_eq_false q'];simp)];simp)];simp
theorem LB {cs us:aa}{i:Int}(h1:inR cs.length 1 32=true)(h2:us.length=cs.length)(h:upto (eM cs us) i)(hi:(cs.length:Int)<=i):framesOk cs us=true:=by
 unfold framesOk;rw[h1,decide_eq_true h2,bg h hi];rfl
theorem Oi {cs us:aa}{i k:Int}(hl:(ax cs i 0).length=16)(h:upto (iR cs us i) k)(hk:16<=k):eM cs us i=true:=by
 unfold eM;rw[decide_eq_true hl,bg h (by simpa using hk)];rfl
theorem N2 {cs us:aa}{i k:Int}(h:inR (af (ax cs i 0) k 0) 0 999=true)(h':jS us i 0=true\/af (ax cs i 0) k 0=0):iR cs us i k=true:=by
 unfold iR;rw[h];rcases h' with q|q
 ·rw[q];rfl
 ·rw[decide_eq_true q];simp
theorem xD {k:Nat}{a b:aa}(h:a=b):[DV.one (.s k a)]=[DV.one (.s k b)]:=by rw[h]
theorem QZ {es:aa}{n i:Int}(h0:0<=i)(h1:i<es.length)(h:¬ (0<=af es i 0/\af es i 0<=2/\(af es i 0=0->af es i 1=0)/\(0<af es i 0->0<=af es i 1/\af es i 1<n))):tableOk es n=false:=by
 unfold tableOk;rw[bB h0 h1];rfl;cases q:ki es n i
 ·rfl
 ·refine absurd ?_ h;unfold ki at q;simp only[Bool.and_eq_true,decide_eq_true_eq,bE]at q;exact⟨q.1.1.1,q.1.1.2,q.1.2,q.2⟩
theorem QY {es:aa}{n i:Int}(h:0<=af es i 0/\af es i 0<=2/\(af es i 0=0->af es i 1=0)/\(0<af es i 0->0<=af es i 1/\af es i 1<n)):ki es n i=true:=by
 unfold ki;simp only[Bool.and_eq_true,decide_eq_true_eq,bE];exact⟨⟨⟨h.1,h.2.1⟩,h.2.2.1⟩,h.2.2.2⟩
theorem Nj {es:aa}{n i:Int}(h:upto (ki es n) i)(hi:(es.length:Int)<=i):tableOk es n=inR es.length 1 32:=by unfold tableOk;rw[bg h hi];rfl
theorem xN {es:aa}{n:Int}(h:tableOk es n=true):1<=es.length/\es.length<=32:=by
 unfold tableOk at h;simp only[Bool.and_eq_true,bE]at h;omega
theorem QX {es:aa}{n i:Int}(h:tableOk es n=true)(h0:0<=i)(h1:i<es.length):0<=af es i 0/\af es i 0<=2/\(af es i 0=0->af es i 1=0)/\(0<af es i 0->0<=af es i 1/\af es i 1<n):=by
 unfold tableOk at h;simp only[Bool.and_eq_true]at h;have q:=cI.1 h.1 i h0 h1;unfold ki at q;simp only[Bool.and_eq_true,decide_eq_true_eq,bE]at q;exact⟨q.1.1.1,q.1.1.2,q.1.2,q.2⟩
theorem wT {cs us:aa}(h:framesOk cs us=true):us.length=cs.length/\1<=cs.length/\cs.length<=32:=by
 unfold framesOk at h;simp only[Bool.and_eq_true,decide_eq_true_eq,bE]at h;omega
theorem vT {cs us:aa}{i:Int}(h:framesOk cs us=true)(h0:0<=i)(h1:i<cs.length):(ax cs i 0).length=16:=by
 unfold framesOk at h;simp only[Bool.and_eq_true,decide_eq_true_eq,bE]at h;have q:=cI.1 h.2 i h0 h1;unfold eM at q;simp only[Bool.and_eq_true,decide_eq_true_eq]at q;exact q.1
end Go.V
namespace Go.V
theorem jN {a n:Int}(h0:0<=a)(h1:a<=9223372036854775807)(hn:0<n):bu .quo .i64 a n=a/n:=by
 show IntKind.wrap .i64 (a.tdiv n)=_;rw[Int.tdiv_eq_ediv_of_nonneg h0];have h2:0<=a/n:=Int.ediv_nonneg h0 (by omega);have h3:a/n<=a:=Int.ediv_le_self _ h0;exact IntWalk.i64_in _ (by omega)
theorem wd {a n:Int}(h0:0<=a):bu .rem .i64 a n=a%n:=Int.tmod_eq_emod_of_nonneg h0
theorem B0 {a:aa}{f:Int}:cg .gtr (pagesOn a f).length 0=tO a f:=ec (by rw[Ib];simp only[SS];omega)
theorem yt {a b a' b':Int}(h:a=a')(h':b=b'):[DV.agg [.i a,.i b]]=[DV.agg [.i a',.i b']]:=by rw[h,h']
theorem D2 {a b c a' b' c':Int}(h:a=a')(h':b=b')(h'':c=c'):[DV.agg [.i a,.i b],DV.j c]=[DV.agg [.i a',.i b'],DV.j c']:=by rw[h,h',h'']
theorem gW {a b a' b':Int}(h:a=a')(h':b=b'):[DV.j a,DV.j b]=[DV.j a',DV.j b']:=by rw[h,h']
theorem bJ {a b:Int}(h:a=b):[DV.j a]=[DV.j b]:=by rw[h]
def peM (es:aa)(p:Int):Int:=if 0<=p/\p<es.length then af es p 0 else 0
def peF (es:aa)(p:Int):Int:=if 0<=p/\p<es.length then af es p 1 else 0
theorem xx {es:aa}{p:Int}(h:0<=p/\p<es.length):peM es p=af es p 0/\peF es p=af es p 1:=by unfold peM peF;rw[if_pos h,if_pos h];exact⟨rfl,rfl⟩
theorem za {es:aa}{p:Int}(h:¬ (0<=p/\p<es.length)):peM es p=0/\peF es p=0:=by unfold peM peF;rw[if_neg h,if_neg h];exact⟨rfl,rfl⟩
theorem v9 {es:aa}{n p:Int}(h:tableOk es n=true)(hm:peM es p≠0):0<=peF es p/\peF es p<n/\1<=peM es p/\peM es p<=2:=by
 by_cases q:0<=p/\p<es.length
 ·rw[(xx q).1]at hm ⊢;rw[(xx q).2];have:=QX h q.1 q.2;omega
 ·exact absurd (za q).1 hm
def leM (es:aa)(a:Int):Int:=if a<0 then 0 else peM es (a/16)
def leF (es:aa)(a:Int):Int:=if a<0 then 0 else peF es (a/16)
def leK (a:Int):Int:=if a<0 then 0 else a%16
theorem oL {es:aa}{a:Int}(h:a<0):leM es a=0/\leF es a=0/\leK a=0:=by unfold leM leF leK;rw[if_pos h,if_pos h,if_pos h];exact⟨rfl,rfl,rfl⟩
theorem iZ {es:aa}{a:Int}(h:¬ a<0):leM es a=peM es (a/16)/\leF es a=peF es (a/16)/\leK a=a%16:=by unfold leM leF leK;rw[if_neg h,if_neg h,if_neg h];exact⟨rfl,rfl,rfl⟩
theorem Fb {a:Int}:0<=leK a/\leK a<16:=by unfold leK;split<;>omega
end Go.V
namespace Go.V
theorem fx {es:aa}:es.length<=ak es:=Nat.le_add_right _ _
def ib (us es:aa)(i:Int):Bool:=jS us i 0==tO es i
def machOk (cs us es:aa):Bool:=framesOk cs us&&tableOk es cs.length&&bU (ib us es) cs.length
theorem Ca {cs us es:aa}(h:framesOk cs us=false\/tableOk es cs.length=false):machOk cs us es=false:=by
 unfold machOk;rcases h with h|h<;>rw[h]<;>simp
theorem Mn {cs us es:aa}(hf:framesOk cs us=true)(h:tableOk es us.length=false):machOk cs us es=false:=by
 rw[(wT hf).1]at h;exact Ca (.inr h)
theorem Fy {cs us es:aa}{i:Int}(h0:0<=i)(h1:i<cs.length)(h:jS us i 0≠tO es i):machOk cs us es=false:=by
 unfold machOk;rw[bB h0 h1 (by unfold ib;simpa using h)];simp
theorem J9 {us es:aa}{i:Int}(h:jS us i 0=tO es i):ib us es i=true:=by unfold ib;simpa using h
theorem Fz {cs us es:aa}{i:Int}(h:framesOk cs us=true)(h2:tableOk es us.length=true)(hu:upto (ib us es) i)(hi:(us.length:Int)<=i):machOk cs us es=true:=by
 rw[(wT h).1]at h2 hi;unfold machOk;rw[h,h2,bg hu hi];rfl
theorem vX {cs us es:aa}(q:machOk cs us es=true):framesOk cs us=true/\tableOk es cs.length=true/\∀ i:Int,0<=i->i<cs.length->jS us i 0=tO es i:=by
 unfold machOk at q;simp only[Bool.and_eq_true]at q;refine⟨q.1.1,q.1.2,fun i h0 h1=>?_⟩;have:=cI.1 q.2 i h0 h1;unfold ib at this;simpa using this
def FB :List aa->Int->List aa
 |[],_=>[]
 |r::rs,k=>bV r k::FB rs (bc [r] k)
theorem yT :∀ {rs:List aa} {k k':Int},bc (FB rs k) k'=bc rs k'
 |[],_,_=>rfl
 | r::rs,k,k'=>by
   show bc (FB rs (bc [r] k)) (cD (cD r k).1 k').2=bc rs (cD r k').2;rw[rL];exact yT
theorem yV {rs:List aa}(h:∀ r∈rs,(cD r 0).2<=(64*ak r:Nat))(hc:ao rs<=1099511627776):bc rs 1<=1152921504606846976:=E4 h (by omega) hc
theorem aj :∀ {rs:List aa} {r:aa} {n:Nat},ao rs<=n->r∈rs->ak r<=n
 | a::rs,r,n,h,hr=>by
   simp only[ao]at h;rcases List.mem_cons.1 hr with rfl|q
   ·omega
   ·exact aj (rs:=rs) (by omega) q
end Go.V
namespace Go.V
end Go.V
namespace Go.V
def smM (cs us es:aa)(a:Int):Int:=if machOk cs us es=true then leM es a else 0
def smF (cs us es:aa)(a:Int):Int:=if machOk cs us es=true then leF es a else 0
theorem o6 {cs us es:aa}{a:Int}(h:machOk cs us es=true):smM cs us es a=leM es a/\smF cs us es a=leF es a:=by unfold smM smF;rw[if_pos h,if_pos h];exact⟨rfl,rfl⟩
theorem wj {cs us es:aa}{a:Int}(h:machOk cs us es=false\/a<0):smM cs us es a=0/\smF cs us es a=0:=by
 unfold smM smF;rcases h with h|h
 ·rw[h];exact⟨rfl,rfl⟩
 ·rw[(oL h).1,(oL (es:=es) h).2.1];constructor<;>split<;>rfl
theorem GK {cs us es:aa}{a:Int}(h:smM cs us es a≠0):machOk cs us es=true/\0<=a:=by
 constructor
 ·cases q:machOk cs us es
  ·exact absurd (wj (.inl q)).1 h
  ·rfl
 ·rcases Int.lt_or_le a 0 with q|q
  ·exact absurd (wj (.inr q)).1 h
  ·exact q
theorem QU {cs us es:aa}{a:Int}(h:smM cs us es a≠0):0<=smF cs us es a/\smF cs us es a<cs.length/\1<=smM cs us es a/\smM cs us es a<=2/\(ax cs (smF cs us es a) 0).length=16:=by
 obtain⟨h0,h1⟩:=GK h;rw[(o6 h0).1,(iZ (by omega)).1]at h ⊢;rw[(o6 h0).2,(iZ (by omega)).2.1];have hm:=vX h0;have hp:=v9 hm.2.1 h;exact⟨hp.1,hp.2.1,hp.2.2.1,hp.2.2.2,vT hm.1 hp.1 hp.2.1⟩
def clsSz (k:Int):Int:=if k=0 then 1 else if k=1 then 2 else if k=2 then 4 else if k=3 then 8 else 0
def clsOf (s:Int):Int:=if s<1 then-1 else if s<=1 then 0 else if s<=2 then 1 else if s<=4 then 2 else if s<=8 then 3 else-1
theorem N7 {k:Int}(h:inR k 0 3=false):clsSz k=0:=by rw[tJ]at h;unfold clsSz;repeat' split<;>omega
theorem JE {k:Int}(h:inR k 0 3=true):Ng .shl .i64 1 k=clsSz k:=by
 rw[bE]at h;rcases(show k=0\/k=1\/k=2\/k=3 by omega)with rfl|rfl|rfl|rfl<;>decide
theorem JG {k:Int}(h:inR k 0 3=true):NN .u64 k=k:=by
 rw[bE]at h;rcases(show k=0\/k=1\/k=2\/k=3 by omega)with rfl|rfl|rfl|rfl<;>decide
theorem JF {k s:Int}(h0:0<=k/\k<=3)(h:clsSz k<s)(hs:1<=s/\s<=8):k+1<=3:=by
 rcases(show k=0\/k=1\/k=2\/k=3 by omega)with rfl|rfl|rfl|rfl<;>simp[clsSz]at h<;>omega
theorem N4 {s:Int}(h:s<1\/8<s):clsOf s= -1:=by unfold clsOf;repeat' split<;>omega
theorem Lj {k s:Int}(h0:0<=k/\k<=3)(h:s<=clsSz k)(hs:1<=s/\s<=8)(hp:k=0\/clsSz (k-1)<s):clsOf s=k:=by
 rcases(show k=0\/k=1\/k=2\/k=3 by omega)with rfl|rfl|rfl|rfl<;>simp[clsSz]at h hp<;>unfold clsOf<;>repeat' split<;>omega
end Go.V
namespace Go.V
theorem JC {s:Int}(h:0<=clsOf s):1<=s/\s<=clsSz (clsOf s)/\clsSz (clsOf s)<=8/\clsOf s<=3:=by
 unfold clsOf at h ⊢
 repeat' split at h
 all_goals simp_all [clsSz]
 all_goals omega
theorem fP {l:aa}{i:Int}(h0:0<=i):Kx (.s 1 l) [(i.toNat,0)]=af l i 0:=by
 rw[Gf];unfold af;rw[Int.toNat_natCast]
theorem HW {l:aa}{i:Int}(h:Rw [tI] l)(h0:0<=i)(h1:i<l.length):∃ rec o,bT (.s 1 l) [(i.toNat,0)]=some (rec,o)/\o+[L.v (Value.int .i64 0)].length<=rec.length/\List.take [L.v (Value.int .i64 0)].length (List.drop o rec)=km ai (.s 1 l) [(i.toNat,0)] 0 [L.v (Value.int .i64 0)]:=by
 have e:l.getD i.toNat []=[L.i (af l i 0)]:=h.eta h0 h1;rw[List.getD_eq_getElem?_getD,List.getElem?_eq_getElem (by omega)]at e;have e1:l[i.toNat]?=some [.i (af l i 0)]:=by
  rw[List.getElem?_eq_getElem (by omega)];exact congrArg some e
 refine⟨[.i (af l i 0)],0,?_,Nat.le_refl _,?_⟩
 ·rw[gA,e1];rfl
 ·show[L.i (af l i 0)]=[L.i (Kx (.s 1 l) [(i.toNat,0)])];rw[fP h0]
end Go.V
namespace Go.V
theorem xA {es:aa}{f:Int}:∀ {n:Nat} {e:ay},e∈uG es f n->∃ k:Nat,k<n/\e=[.i k]
 |0,e,h=>by cases h
 | n+1,e,h=>by
   unfold uG at h;split at h
   ·rcases List.mem_append.1 h with q|q
    ·obtain⟨k,hk,e⟩:=xA q;exact⟨k,by omega,e⟩
    ·rw[List.mem_singleton]at q;exact⟨n,by omega,q⟩
   ·obtain⟨k,hk,e⟩:=xA h;exact⟨k,by omega,e⟩
theorem F3 {es:aa}{f:Int}(h:es.length<=1099511627776):Rw [tI] (pagesOn es f):=by
 have hl:=v8 (es:=es) (f:=f);refine⟨by simp[maxLen];omega,fun e he=>?_⟩;obtain⟨k,hk,rfl⟩:=xA he;exact⟨⟨rfl,(show-9223372036854775808<=(k:Int)/\(k:Int)<=9223372036854775807 by omega)⟩,trivial⟩
end Go.V
namespace Go.V
def cF (p:Int->Bool)(n:Nat):Int:=match(List.range n).find? (fun j:Nat=>p (j:Int))with
 |some j=>(j:Int)
 |none=> -1
def bZ (p:Int->Bool)(j:Int):Bool:= !p j
theorem fO {p:Int->Bool}{i:Int}(h:p i=false):bZ p i=true:=by unfold bZ;rw[h];rfl
theorem cO {p:Int->Bool}{n:Nat}{i:Int}(h:upto (bZ p) i)(h0:0<=i)(h1:i<n)(h2:p i=true):cF p n=i:=by
 have e:((i.toNat:Nat):Int)=i:=Int.toNat_of_nonneg h0;have:(List.range n).find? (fun j:Nat=>p (j:Int))=some i.toNat:=by
  rw[List.find?_range_eq_some];refine⟨by rw[e];exact h2,List.mem_range.2 (by omega),fun j hj=>?_⟩;exact h j (by omega) (by omega)
 unfold cF;rw[this];exact e
theorem cP {p:Int->Bool}{n:Nat}{i:Int}(h:upto (bZ p) i)(h1:(n:Int)<=i):cF p n= -1:=by
 have:(List.range n).find? (fun j:Nat=>p (j:Int))=none:=by
  rw[List.find?_range_eq_none];intro j hj;exact h j (by omega) (by omega)
 unfold cF;rw[this]
theorem mR {p:Int->Bool}{n:Nat}:cF p n= -1\/0<=cF p n/\cF p n<n:=by
 unfold cF;split
 ·rename_i j h;rw[List.find?_range_eq_some]at h;have:=List.mem_range.1 h.2.1;omega
 ·exact .inl rfl
def eqB (a b:Int):Bool:=decide (a=b)
theorem kj {a b:Int}(h:a=b):eqB a b=true:=decide_eq_true h
theorem tn {a b:Int}(h:a≠b):eqB a b=false:=decide_eq_false h
theorem R0 {a:aa}:ao [a]=ak a:=cE
end Go.V
namespace Go.V
def isSp (ss:aa)(p j:Int):Bool:=eqB (af ss j 0) p
def spI (ss:aa)(p:Int):Int:=cF (isSp ss p) ss.length
end Go.V
namespace Go.V
def nR (x:Int):BitVec 64:=BitVec.ofInt 64 x
theorem C6 (x:BitVec 64):IntKind.wrap .i64 (x.toNat:Int)=x.toInt:=by
 have h:=x.isLt;rw[BitVec.toInt_eq_toNat_cond];simp only[IntKind.wrap,IntKind.bits,IntKind.signed,Bool.true_and,decide_eq_true_eq,show(64-1:Nat)=63 from rfl];split<;>split<;>omega
theorem FV {a b:Int}:bu .or .i64 a b=(nR a|||nR b).toInt:=C6 _
theorem Le {x:BitVec 64}:nR x.toInt=x:=BitVec.ofInt_toInt
theorem E1 {a:Int}(h: -9223372036854775808<=a/\a<=9223372036854775807):(nR a).toInt=a:=by
 unfold nR;rw[BitVec.toInt_ofInt,Int.bmod_def];split<;>omega
def fpg (es:aa)(p:Int):aa:=if peM es p=0 then[]else pagesOn es (peF es p)
theorem EJ {es:aa}{p:Int}(h:peM es p=0):fpg es p=[]:=by unfold fpg;rw[if_pos h]
theorem BI {es:aa}{p:Int}(h:peM es p≠0):fpg es p=pagesOn es (peF es p):=by unfold fpg;rw[if_neg h]
theorem Aq {es:aa}{p:Int}(h:es.length<=1099511627776):Rw [tI] (fpg es p)/\(fpg es p).length<=1099511627776:=by
 unfold fpg;split
 ·exact⟨Rw.nil,by simp⟩
 ·exact⟨F3 h,Nat.le_trans v8 h⟩
def DL (l:aa)(x j:Int):Bool:=eqB x (af l j 0)
def idxI (l:aa)(x:Int):Int:=cF (DL l x) l.length
def hasB (l:aa)(x:Int):Bool:=decide (0<=idxI l x)
theorem jJ {l:aa}{x:Int}:hasB l x=true↔∃ k:Nat,k<l.length/\af l k 0=x:=by
 unfold hasB idxI;rw[decide_eq_true_eq]
 constructor
 ·intro h;unfold cF at h;split at h
  ·rename_i j hj;rw[List.find?_range_eq_some]at hj;refine⟨j,List.mem_range.1 hj.2.1,?_⟩;have:=hj.1;unfold DL eqB at this;exact(of_decide_eq_true this).symm
  ·omega
 ·rintro⟨k,hk,e⟩;rcases mR (p:=DL l x) (n:=l.length)with q|q
  ·exfalso;unfold cF at q;split at q
   ·omega
   ·rename_i hn;rw[List.find?_range_eq_none]at hn;have:=hn k hk;unfold DL eqB at this;rw[e]at this;simp at this
  ·exact q.1
def CY (ss l:aa)(b:Int):Nat->Int
 |0=>b
 |n+1=>if hasB l (af ss n 0)=true then bu .or .i64 (CY ss l b n) (af ss n 2)else CY ss l b n
def yh (ss:aa)(x b:Int):Nat->Int
 |0=>b
 |n+1=>if af ss n 0=x then bu .or .i64 (yh ss x b n) (af ss n 2)else yh ss x b n
def Dx (ss l:aa)(b:Int):Nat->Int
 |0=>b
 |k+1=>yh ss (af l k 0) (Dx ss l b k) ss.length
theorem I1 {ss:aa}{x b i:Int}(h:0<=i)(q:af ss i 0=x):yh ss x b (i+1).toNat=bu .or .i64 (yh ss x b i.toNat) (af ss i 2):=by
 have e:((i.toNat:Nat):Int)=i:=Int.toNat_of_nonneg h;rw[show(i+1).toNat=i.toNat+1 by omega,yh,e,if_pos q]
theorem Nk {ss:aa}{x b i:Int}(h:0<=i)(q:af ss i 0≠x):yh ss x b (i+1).toNat=yh ss x b i.toNat:=by
 have e:((i.toNat:Nat):Int)=i:=Int.toNat_of_nonneg h;rw[show(i+1).toNat=i.toNat+1 by omega,yh,e,if_neg q]
theorem Nl {ss l:aa}{b i:Int}(h:0<=i):Dx ss l b (i+1).toNat=yh ss (af l i 0) (Dx ss l b i.toNat) ss.length:=by
 have e:((i.toNat:Nat):Int)=i:=Int.toNat_of_nonneg h;rw[show(i+1).toNat=i.toNat+1 by omega,Dx,e]
def Gs (a:Int):Prop:= -9223372036854775808<=a/\a<=9223372036854775807
theorem MX {x:BitVec 64}:Gs x.toInt:=by
 have h1:=x.toInt_lt;have h2:=x.le_toInt;unfold Gs;omega
theorem Gt {a b:Int}:Gs (bu .or .i64 a b):=by rw[FV];exact MX
theorem KO {ss l:aa}{b:Int}(h:Gs b):∀ {n:Nat},Gs (CY ss l b n)
 |0=>h
 |n+1=>by unfold CY;split;exact Gt;exact KO h
theorem KP {ss:aa}{x b:Int}(h:Gs b):∀ {n:Nat},Gs (yh ss x b n)
 |0=>h
 |n+1=>by unfold yh;split;exact Gt;exact KP h
theorem KQ {ss l:aa}{b:Int}(h:Gs b):∀ {n:Nat},Gs (Dx ss l b n)
 |0=>h
 |n+1=>by unfold Dx;exact KP (KQ h)
theorem Ah {a b:Int}{t:Nat}:(nR (bu .or .i64 a b)).getLsbD t=((nR a).getLsbD t||(nR b).getLsbD t):=by
 rw[FV,Le,BitVec.getLsbD_or]
theorem NV {ss l:aa}{b:Int}{t:Nat}:∀ {n:Nat},(nR (CY ss l b n)).getLsbD t=true↔(nR b).getLsbD t=true\/∃ j:Nat,j<n/\hasB l (af ss j 0)=true/\(nR (af ss j 2)).getLsbD t=true
 |0=>by simp[CY]
 | n+1=>by
   have ih:=NV (ss:=ss) (l:=l) (b:=b) (t:=t) (n:=n);unfold CY;by_cases c:hasB l (af ss n 0)=true
   ·rw[if_pos c,Ah,Bool.or_eq_true,ih]
    constructor
    ·rintro((h|⟨j,h1,h2,h3⟩)|h)
     ·exact .inl h
     ·exact .inr ⟨j,by omega,h2,h3⟩
     ·exact .inr ⟨n,by omega,c,h⟩
    ·rintro(h|⟨j,h1,h2,h3⟩)
     ·exact .inl (.inl h)
     ·rcases(show j<n\/j=n by omega)with q|rfl
      ·exact .inl (.inr ⟨j,q,h2,h3⟩)
      ·exact .inr h3
   ·rw[if_neg c,ih]
    constructor
    ·rintro(h|⟨j,h1,h2,h3⟩)
     ·exact .inl h
     ·exact .inr ⟨j,by omega,h2,h3⟩
    ·rintro(h|⟨j,h1,h2,h3⟩)
     ·exact .inl h
     ·rcases(show j<n\/j=n by omega)with q|rfl
      ·exact .inr ⟨j,q,h2,h3⟩
      ·exact absurd h2 c
theorem NW {ss:aa}{x b:Int}{t:Nat}:∀ {n:Nat},(nR (yh ss x b n)).getLsbD t=true↔(nR b).getLsbD t=true\/∃ j:Nat,j<n/\af ss j 0=x/\(nR (af ss j 2)).getLsbD t=true
 |0=>by simp[yh]
 | n+1=>by
   have ih:=NW (ss:=ss) (x:=x) (b:=b) (t:=t) (n:=n);unfold yh;by_cases c:af ss n 0=x
   ·rw[if_pos c,Ah,Bool.or_eq_true,ih]
    constructor
    ·rintro((h|⟨j,h1,h2,h3⟩)|h)
     ·exact .inl h
     ·exact .inr ⟨j,by omega,h2,h3⟩
     ·exact .inr ⟨n,by omega,c,h⟩
    ·rintro(h|⟨j,h1,h2,h3⟩)
     ·exact .inl (.inl h)
     ·rcases(show j<n\/j=n by omega)with q|rfl
      ·exact .inl (.inr ⟨j,q,h2,h3⟩)
      ·exact .inr h3
   ·rw[if_neg c,ih]
    constructor
    ·rintro(h|⟨j,h1,h2,h3⟩)
     ·exact .inl h
     ·exact .inr ⟨j,by omega,h2,h3⟩
    ·rintro(h|⟨j,h1,h2,h3⟩)
     ·exact .inl h
     ·rcases(show j<n\/j=n by omega)with q|rfl
      ·exact .inr ⟨j,q,h2,h3⟩
      ·exact absurd h2 c
theorem NX {ss l:aa}{b:Int}{t:Nat}:∀ {k:Nat},(nR (Dx ss l b k)).getLsbD t=true↔(nR b).getLsbD t=true\/∃ i j:Nat,i<k/\j<ss.length/\af ss j 0=af l i 0/\(nR (af ss j 2)).getLsbD t=true
 |0=>by simp[Dx]
 | k+1=>by
   have ih:=NX (ss:=ss) (l:=l) (b:=b) (t:=t) (k:=k);unfold Dx;rw[NW,ih]
   constructor
   ·rintro((h|⟨i,j,h1,h2,h3,h4⟩)|⟨j,h1,h2,h3⟩)
    ·exact .inl h
    ·exact .inr ⟨i,j,by omega,h2,h3,h4⟩
    ·exact .inr ⟨k,j,by omega,h1,h2,h3⟩
   ·rintro(h|⟨i,j,h1,h2,h3,h4⟩)
    ·exact .inl (.inl h)
    ·rcases(show i<k\/i=k by omega)with q|rfl
     ·exact .inl (.inr ⟨i,j,q,h2,h3,h4⟩)
     ·exact .inr ⟨j,h2,h3,h4⟩
theorem Q0 {ss l:aa}{b:Int}(h:Gs b):Dx ss l b l.length=CY ss l b ss.length:=by
 rw[<-E1 (KQ (ss:=ss) (l:=l) h (n:=l.length)), <-E1 (KO (ss:=ss) (l:=l) h (n:=ss.length))]
 congr 1
 refine BitVec.eq_of_getLsbD_eq fun t _=>ec ?_
 rw[NX,NV]
 constructor
 ·rintro(h|⟨i,j,h1,h2,h3,h4⟩)
  ·exact .inl h
  ·exact .inr ⟨j,h2,jJ.2 ⟨i,h1,h3.symm⟩,h4⟩
 ·rintro(h|⟨j,h1,h2,h3⟩)
  ·exact .inl h
  ·obtain⟨i,hi,e⟩:=jJ.1 h2;exact .inr ⟨i,j,hi,h1,e.symm,h3⟩
def ubB (es ss:aa)(i:Int):Int:=if inR i 0 (ss.length-1)=true then CY ss (fpg es (af ss i 0)) (af ss i 2) ss.length else 0
theorem Q1 {es ss:aa}{i:Int}(h:inR i 0 (ss.length-1)=false):ubB es ss i=0:=by unfold ubB;rw[h];rfl
theorem GQ {es ss:aa}{i:Int}(h:inR i 0 (ss.length-1)=true):ubB es ss i=CY ss (fpg es (af ss i 0)) (af ss i 2) ss.length:=by unfold ubB;rw[if_pos h]
theorem Ni {ss:aa}{i:Int}(h:Rw [tI,tI,tI] ss)(h0:0<=i)(h1:i<ss.length):Gs (af ss i 2):=by
 have e:=h.at (n:=i.toNat) (by omega);rw[h.eta h0 h1]at e;have e':bY [tI,tI,tI] [.i (af ss i 0),.i (af ss i 1),.i (af ss i 2)]:=e;exact e'.2.2.1.2
end Go.V
namespace Go.V
def slB (b i:Int):Bool:=decide (0<=b)&&inR i 0 15
def hsB (b i:Int):Bool:=slB b i&&decide (bu .and .i64 (Ng .shr .i64 b i) 1=1)
theorem QT {b i:Int}:slB b i=true↔0<=b/\0<=i/\i<=15:=by simp[slB,inR]
theorem OK {b i:Int}(h:slB b i=false):hsB b i=false:=by unfold hsB;rw[h];rfl
theorem G6 {i:Int}(h0:0<=i)(h1:i<=15):NN .u64 i=i:=by
 show IntKind.wrap .u64 i=i;simp only[IntKind.wrap,IntKind.bits,IntKind.signed,Bool.false_and];rw[if_neg (by simp)];omega
end Go.V
namespace Go.V
def y8 (rs:aa)(i:Int):Bool:=decide (0<=af rs i 0)
def pM (rs:aa):Bool:=bU (y8 rs) rs.length&&decide (rs.length<=40)
def kerOk (cs us es:aa)(c:Int)(rs:aa):Bool:=machOk cs us es&&inR c 0 100000&&pM rs
theorem Gw {rs:aa}{i:Int}(h:0<=af rs i 0):y8 rs i=true:=decide_eq_true h
theorem Gx {cs us es rs:aa}{c i:Int}(h0:0<=i)(h1:i<rs.length)(h:af rs i 0<0):kerOk cs us es c rs=false:=by
 unfold kerOk pM;rw[bB h0 h1 (by unfold y8;exact decide_eq_false (by omega))];simp
theorem ID {rs:aa}{i:Int}(h:upto (y8 rs) i)(hi:(rs.length:Int)<=i)(hl:(rs.length:Int)<=40):pM rs=true:=by
 unfold pM;rw[bg h hi,decide_eq_true (by omega)];rfl
theorem IC {rs:aa}(hl:¬ (rs.length:Int)<=40):pM rs=false:=by
 unfold pM;rw[decide_eq_false (by omega)];simp
theorem H4 {cs us es rs:aa}{c:Int}(h1:machOk cs us es=false):kerOk cs us es c rs=false:=by unfold kerOk;rw[h1];rfl
theorem BQ {cs us es rs:aa}{c:Int}(h1:inR c 0 100000=false):kerOk cs us es c rs=false:=by unfold kerOk;rw[h1];simp
theorem H5 {cs us es rs:aa}{c:Int}(h1:pM rs=false):kerOk cs us es c rs=false:=by unfold kerOk;rw[h1];simp
end Go.V
namespace Go.V
def slN (k:Int):Int:=if inR k 0 3=true then 16/clsSz k else 0
theorem HL {k:Int}(h:inR k 0 3=true):k=0\/k=1\/k=2\/k=3:=by have:=bE.1 h;omega
theorem fD {k:Int}(h:inR k 0 3=true):1<=clsSz k/\clsSz k<=8/\2<=slN k/\slN k<=16/\slN k*clsSz k=16:=by
 rcases HL h with rfl|rfl|rfl|rfl<;>decide
theorem GI {k:Int}(h:inR k 0 3=true):bu .quo .i64 16 (clsSz k)=slN k:=by
 rcases HL h with rfl|rfl|rfl|rfl<;>decide
theorem GJ {k:Int}(h:inR k 0 3=true):Ng .shr .i64 16 (NN .u64 k)=slN k:=by
 rcases HL h with rfl|rfl|rfl|rfl<;>decide
theorem A0 {k:Int}(h:inR k 0 3=false):slN k=0:=by unfold slN;rw[h];rfl
def bmOk (n b:Int):Bool:=inR n 1 16&&inR b 0 (2^n.toNat-1)
theorem GH {n:Int}(h:inR n 1 16=true):bu .sub .i64 (Ng .shl .i64 1 n) 1=2^n.toNat-1/\bu .sub .i64 (Ng .shl .i64 1 (NN .u64 n)) 1=2^n.toNat-1/\0<=NN .u64 n:=by
 have q:=bE.1 h;have:n=1\/n=2\/n=3\/n=4\/n=5\/n=6\/n=7\/n=8\/n=9\/n=10\/n=11\/n=12\/n=13\/n=14\/n=15\/n=16:=by omega
 rcases this with rfl|rfl|rfl|rfl|rfl|rfl|rfl|rfl|rfl|rfl|rfl|rfl|rfl|rfl|rfl|rfl<;>decide
theorem Jq {n b:Int}(h:inR n 1 16=false):bmOk n b=false:=by unfold bmOk;rw[h];rfl
theorem Eb {n b:Int}(h:inR n 1 16=true):bmOk n b=inR b 0 (2^n.toNat-1):=by unfold bmOk;rw[h];rfl
def spOk (p k b:Int):Bool:=inR p 0 31&&bmOk (slN k) b
theorem Ea {k b:Int}(h:inR k 0 3=false):bmOk (slN k) b=false:=by rw[A0 h];rfl
theorem GN {p k b:Int}(h:inR p 0 31=false):spOk p k b=false:=by unfold spOk;rw[h];rfl
theorem Nh {p k b:Int}(h:inR k 0 3=false):spOk p k b=false:=by unfold spOk;rw[Ea h,Bool.and_false]
theorem GO {p k b:Int}(h:inR p 0 31=true):spOk p k b=bmOk (slN k) b:=by unfold spOk;rw[h];rfl
theorem fh {p k b:Int}(h:spOk p k b=true):0<=p/\p<=31/\inR k 0 3=true/\bmOk (slN k) b=true:=by
 unfold spOk at h;simp only[Bool.and_eq_true,bE]at h;refine⟨h.1.1,h.1.2,?_,h.2⟩;cases q:inR k 0 3
 ·rw[Ea q]at h;exact absurd h.2 (by decide)
 ·rfl
def pfN (s:Int):Int:=if inR s 9 1000=true then(s+15)/16 else 0
theorem MP {s:Int}(h:inR s 9 1000=true):bu .quo .i64 (bu .sub .i64 (bu .add .i64 s 16) 1) 16=pfN s:=by
 have q:=bE.1 h;have e1:bu .add .i64 s 16=s+16:=bj (by omega);have e2:bu .sub .i64 (s+16) 1=s+16-1:=cL (by omega);unfold pfN;rw[if_pos h,e1,e2,jN (by omega) (by omega) (by omega),show s+16-1=s+15 from by omega]
theorem Kv {s:Int}(h:inR s 9 1000=false):pfN s=0:=by unfold pfN;rw[h];rfl
theorem gP {s:Int}(h:inR s 9 1000=true):1<=pfN s/\pfN s<=63/\s<=pfN s*16:=by
 have q:=bE.1 h;unfold pfN;rw[if_pos h];omega
theorem Gb {s:Int}:0<pfN s↔inR s 9 1000=true:=by
 constructor
 ·intro h;cases q:inR s 9 1000
  ·rw[Kv q]at h;omega
  ·rfl
 ·intro h;have:=gP h;omega
def lgOk (p n s:Int):Bool:=inR s 9 1000&&(decide (n=pfN s)&&inR p 0 (32-n))
theorem Fj {p n s:Int}(h:inR s 9 1000=false):lgOk p n s=false:=by unfold lgOk;rw[h];rfl
theorem Fl {p n s:Int}(h:n≠pfN s):lgOk p n s=false:=by unfold lgOk;rw[decide_eq_false h];simp
theorem Fo {p n s:Int}(h:inR s 9 1000=true)(h2:n=pfN s):lgOk p n s=inR p 0 (32-n):=by unfold lgOk;rw[h,decide_eq_true h2];rfl
theorem fH {p n s:Int}(h:lgOk p n s=true):inR s 9 1000=true/\n=pfN s/\0<=p/\p<=32-n:=by
 unfold lgOk at h;simp only[Bool.and_eq_true,decide_eq_true_eq,bE]at h;exact⟨bE.2 h.1,h.2.1,h.2.2⟩
def zm (p k b a:Int):Bool:=spOk p k b&&inR a (p*16) (p*16+15)
def saS (p k b a:Int):Int:=if zm p k b a=true then(a-p*16)/clsSz k else-1
def saO (p k b a:Int):Int:=if zm p k b a=true then(a-p*16)%clsSz k else-1
theorem wh {p k b a:Int}(h:zm p k b a=false):saS p k b a= -1/\saO p k b a= -1:=by unfold saS saO;rw[h];exact⟨rfl,rfl⟩
theorem oY {p k b a:Int}(h:zm p k b a=true):saS p k b a=(a-p*16)/clsSz k/\saO p k b a=(a-p*16)%clsSz k:=by unfold saS saO;rw[if_pos h,if_pos h];exact⟨rfl,rfl⟩
theorem oX {p k b a:Int}:zm p k b a=true↔spOk p k b=true/\p*16<=a/\a<=p*16+15:=by unfold zm;rw[Bool.and_eq_true,bE]
def K9 (p k b s:Int):Bool:=spOk p k b&&inR s 0 (slN k-1)
def aaI (p k b s:Int):Int:=if K9 p k b s=true then p*16+s*clsSz k else-1
def lhB (p n s a:Int):Bool:=lgOk p n s&&inR a (p*16) (p*16+s-1)
def loI (p n s a:Int):Int:=if lhB p n s a=true then a-p*16 else-1
theorem Fq {p n s a:Int}(h:lgOk p n s=false):lhB p n s a=false:=by unfold lhB;rw[h];rfl
theorem AB {p n s a:Int}(h:lgOk p n s=true):lhB p n s a=inR a (p*16) (p*16+s-1):=by unfold lhB;rw[h];rfl
theorem O8 {p n s a:Int}(h:lhB p n s a=false):loI p n s a= -1:=by unfold loI;rw[h];rfl
theorem Mh {p n s a:Int}(h:lhB p n s a=true):loI p n s a=a-p*16:=by unfold loI;rw[if_pos h]
theorem AG {a b:Int}(h: -9223372036854775808<=a*b/\a*b<=9223372036854775807):bu .mul .i64 a b=a*b:=IntWalk.i64_in _ h
theorem P8 {p:Int}(h:0<=p/\p<=31):bu .mul .i64 p 16=p*16/\bu .sub .i64 (bu .add .i64 (p*16) 16) 1=p*16+15:=by
 have e1:bu .mul .i64 p 16=p*16:=AG (by omega);have e2:bu .add .i64 (p*16) 16=p*16+16:=bj (by omega);have e3:bu .sub .i64 (p*16+16) 1=p*16+16-1:=cL (by omega);rw[e1,e2,e3];omega
theorem II {p k b a:Int}(h:spOk p k b=true)(h1:inR a (p*16) (p*16+15)=true):saS p k b a=bu .quo .i64 (bu .sub .i64 a (p*16)) (clsSz k)/\saO p k b a=bu .rem .i64 (bu .sub .i64 a (p*16)) (clsSz k):=by
 have t:=fh h;have q:=bE.1 h1;have c:=fD t.2.2.1;have y:=oY (oX.2 ⟨h,q⟩);have e:bu .sub .i64 a (p*16)=a-p*16:=cL (by omega);rw[y.1,y.2,e,jN (by omega) (by omega) (by omega),wd (by omega)];exact⟨rfl,rfl⟩
theorem KI {p k b a:Int}(h:spOk p k b=false):zm p k b a=false:=by unfold zm;rw[h];rfl
theorem QO {p k b a:Int}(h:inR a (p*16) (p*16+15)=false):zm p k b a=false:=by unfold zm;rw[h,Bool.and_false]
theorem IJ {p k b a:Int}(h:spOk p k b=true)(h0:¬ a<0)(h1:bu .quo .i64 a 16=p)(ha:a<=9223372036854775807):saS p k b a=bu .quo .i64 (bu .rem .i64 a 16) (clsSz k)/\saO p k b a=bu .rem .i64 (bu .rem .i64 a 16) (clsSz k):=by
 have t:=fh h;have c:=fD t.2.2.1;rw[jN (by omega) ha (by omega)]at h1;have e:bu .rem .i64 a 16=a%16:=wd (by omega);have y:=oY (oX.2 ⟨h,show p*16<=a/\a<=p*16+15 by omega⟩);rw[y.1,y.2,e,jN (by omega) (by omega) (by omega),wd (by omega),show a-p*16=a%16 by omega];exact⟨rfl,rfl⟩
theorem KJ {p k b a:Int}(h0:a<0\/bu .quo .i64 a 16≠p)(ha:a<=9223372036854775807):zm p k b a=false:=by
 cases q:zm p k b a
 ·rfl
 ·obtain⟨h,h1⟩:=oX.1 q;have t:=fh h;rcases h0 with h0|h0
  ·omega
  ·rw[jN (by omega) ha (by omega)]at h0;omega
theorem La {p k b s:Int}(h:spOk p k b=true)(h1:inR s 0 (slN k-1)=true):bu .add .i64 (bu .mul .i64 p 16) (bu .mul .i64 s (clsSz k))=aaI p k b s:=by
 have t:=fh h;have c:=fD t.2.2.1;have q:=bE.1 h1;have m1:0<=s*clsSz k:=Int.mul_nonneg q.1 (by omega);have m2:s*clsSz k<=(slN k-1)*clsSz k:=Int.mul_le_mul_of_nonneg_right q.2 (by omega);have m3:(slN k-1)*clsSz k=16-clsSz k:=by rw[Int.sub_mul,c.2.2.2.2,Int.one_mul]
 have e:bu .mul .i64 s (clsSz k)=s*clsSz k:=AG (by omega);rw[(P8 ⟨t.1,t.2.1⟩).1,e];unfold aaI K9;rw[h,h1];exact bj (by omega)
theorem Jn {p k b s:Int}(h:spOk p k b=false\/inR s 0 (slN k-1)=false):aaI p k b s= -1:=by
 unfold aaI K9;rcases h with h|h
 ·rw[h];rfl
 ·rw[h,Bool.and_false];rfl
theorem Fp {p n s:Int}(h:lgOk p n s=true):bu .mul .i64 p 16=p*16/\bu .add .i64 (bu .mul .i64 p 16) s=p*16+s/\bu .sub .i64 (bu .add .i64 (bu .mul .i64 p 16) s) 1=p*16+s-1:=by
 have t:=fH h;have b:=gP t.1;have q:=bE.1 t.1;have e1:bu .mul .i64 p 16=p*16:=AG (by omega);have e2:bu .add .i64 (p*16) s=p*16+s:=bj (by omega);have e3:bu .sub .i64 (p*16+s) 1=p*16+s-1:=cL (by omega);rw[e1,e2,e3];exact⟨rfl,rfl,rfl⟩
theorem Md {p n s a:Int}:lhB p n s a=true↔lgOk p n s=true/\p*16<=a/\a<=p*16+s-1:=by unfold lhB;rw[Bool.and_eq_true,bE]
theorem O7 {p n s a:Int}(h:lhB p n s a=true):bu .sub .i64 a (bu .mul .i64 p 16)=loI p n s a:=by
 obtain⟨h1,h2,h3⟩:=Md.1 h;have t:=fH h1;have b:=gP t.1;have q:=bE.1 t.1;rw[(Fp h1).1,Mh h];exact cL (by omega)
end Go.V
namespace Go.V
def fA (l:List Int):aa:=l.map fun x=>[.i x]
theorem bW {l:List Int}:(fA l).length=l.length:=by unfold fA;rw[List.length_map]
theorem eo {a b:List Int}:fA (a++b)=fA a++fA b:=by unfold fA;rw[List.map_append]
theorem oV {l:List Int}{k:Nat}(h:k<l.length):af (fA l) k 0=l[k]:=by
 have e:(fA l).getD k []=[.i l[k]]:=by
  unfold fA;rw[List.getD_eq_getElem?_getD,List.getElem?_map,List.getElem?_eq_getElem h];rfl
 unfold af;rw[Int.toNat_natCast,e];rfl
theorem kZ {l:List Int}{x:Int}:hasB (fA l) x=true↔x∈l:=by
 rw[jJ]
 constructor
 ·rintro⟨k,hk,e⟩;rw[bW]at hk;rw[oV hk]at e;rw[<-e];exact List.getElem_mem hk
 ·intro h;obtain⟨k,hk,e⟩:=List.getElem_of_mem h;exact⟨k,by rw[bW];exact hk,by rw[oV hk];exact e⟩
theorem rF {l:List Int}{x:Int}(h:hasB (fA l) x=false):x∉l:=fun m=>by rw[kZ.2 m]at h;cases h
theorem oW {l:List Int}(h:∀ x∈l,-9223372036854775808<=x/\x<=9223372036854775807)(hl:l.length<=70368744177664):Rw [tI] (fA l):=by
 refine⟨by rw[bW];unfold maxLen;omega,fun e he=>?_⟩;obtain⟨x,hx,rfl⟩:=List.mem_map.1 he;have q:=h x hx;exact⟨⟨rfl,by show-9223372036854775808<=x/\x<=(9223372036854775807:Int);exact q⟩,trivial⟩
theorem LD {l:aa}{x i:Int}(h:upto (bZ (DL l x)) i)(hi:(l.length:Int)<=i):hasB l x=false:=by
 unfold hasB idxI;rw[cP h hi];rfl
def KN (sp:aa)(i:Int):Bool:=spOk (af sp i 0) (af sp i 1) (af sp i 2)
def Ma (lg:aa)(i:Int):Bool:=lgOk (af lg i 0) (af lg i 1) (af lg i 2)
def ij (sp:aa):Nat->List Int
 |0=>[]
 |n+1=>ij sp n++[af sp n 0]
def lh (p:Int):Nat->List Int
 |0=>[]
 |n+1=>lh p n++[p+n]
def ig (lg:aa):Nat->List Int
 |0=>[]
 |n+1=>ig lg n++lh (af lg n 0) (af lg n 1).toNat
def rM (sp lg:aa):List Int:=ij sp sp.length++ig lg lg.length
def layOk (sp lg:aa):Bool:=(bU (KN sp) sp.length&&bU (Ma lg) lg.length)&&decide (rM sp lg).Nodup
theorem kO {sp:aa}{i:Int}(h:0<=i):ij sp (i+1).toNat=ij sp i.toNat++[af sp i 0]:=by
 rw[show(i+1).toNat=i.toNat+1 from by omega,ij,Int.toNat_of_nonneg h]
theorem lY {lg:aa}{i:Int}(h:0<=i):ig lg (i+1).toNat=ig lg i.toNat++lh (af lg i 0) (af lg i 1).toNat:=by
 rw[show(i+1).toNat=i.toNat+1 from by omega,ig,Int.toNat_of_nonneg h]
theorem uc {p i:Int}(h:0<=i):lh p (i+1).toNat=lh p i.toNat++[p+i]:=by
 rw[show(i+1).toNat=i.toNat+1 from by omega,lh,Int.toNat_of_nonneg h]
theorem lp {sp:aa}:∀ {n:Nat},(ij sp n).length=n
 |0=>rfl
 |n+1=>by rw[ij,List.length_append,lp];rfl
theorem no {p:Int}:∀ {n:Nat},(lh p n).length=n
 |0=>rfl
 |n+1=>by rw[lh,List.length_append,no];rfl
theorem CW {sp:aa}:∀ (m n:Nat),n<=m->∃ r,ij sp m=ij sp n++r
 |0,n,h=>⟨[],by rw[show n=0 by omega];rfl⟩
 | m+1,n,h=>by
   by_cases c:n=m+1
   ·subst c;exact⟨[],by simp⟩
   ·obtain⟨r,e⟩:=CW (sp:=sp) m n (by omega);exact⟨r++[af sp m 0],by rw[ij,e,List.append_assoc]⟩
theorem Cv {p:Int}:∀ (m n:Nat),n<=m->∃ r,lh p m=lh p n++r
 |0,n,h=>⟨[],by rw[show n=0 by omega];rfl⟩
 | m+1,n,h=>by
   by_cases c:n=m+1
   ·subst c;exact⟨[],by simp⟩
   ·obtain⟨r,e⟩:=Cv (p:=p) m n (by omega);exact⟨r++[p+m],by rw[lh,e,List.append_assoc]⟩
theorem B5 {lg:aa}:∀ (m n:Nat),n<=m->∃ r,ig lg m=ig lg n++r
 |0,n,h=>⟨[],by rw[show n=0 by omega];rfl⟩
 | m+1,n,h=>by
   by_cases c:n=m+1
   ·subst c;exact⟨[],by simp⟩
   ·obtain⟨r,e⟩:=B5 (lg:=lg) m n (by omega);exact⟨r++lh (af lg m 0) (af lg m 1).toNat,by rw[ig,e,List.append_assoc]⟩
theorem dup {a b l:List Int}{x:Int}(h:l=a++x::b)(hm:x∈a):¬ l.Nodup:=by
 rw[h,List.nodup_append];rintro⟨_,_,q⟩;exact q x hm x (by simp) rfl
theorem hD {a:List Int}{x:Int}(h:a.Nodup)(hx:x∉a):(a++[x]).Nodup:=by
 rw[List.nodup_append];exact⟨h,by simp,fun y hy z hz e=>by simp at hz;subst hz;subst e;exact hx hy⟩
theorem BS {sp lg:aa}{i:Int}(h0:0<=i)(h1:i<sp.length)(h:spOk (af sp i 0) (af sp i 1) (af sp i 2)=false):layOk sp lg=false:=by
 unfold layOk;rw[bB h0 h1 h];rfl
theorem BU {sp lg:aa}{i:Int}(h0:0<=i)(h1:i<lg.length)(h:lgOk (af lg i 0) (af lg i 1) (af lg i 2)=false):layOk sp lg=false:=by
 unfold layOk;rw[bB (p:=Ma lg) h0 h1 h,Bool.and_false];rfl
theorem BV {sp lg:aa}{i:Int}(h0:0<=i)(h1:i<sp.length)(h:af sp i 0∈ij sp i.toNat):layOk sp lg=false:=by
 obtain⟨r,e⟩:=CW (sp:=sp) sp.length (i+1).toNat (by omega);rw[kO h0,List.append_assoc]at e;have:¬ (rM sp lg).Nodup:=dup (a:=ij sp i.toNat) (b:=r++ig lg lg.length) (x:=af sp i 0) (by unfold rM;rw[e,List.append_assoc];rfl) h;unfold layOk;rw[decide_eq_false this,Bool.and_false]
theorem BW {sp lg:aa}{i k:Int}(h0:0<=i)(h1:i<lg.length)(k0:0<=k)(k1:k<af lg i 1)(h:af lg i 0+k∈ij sp sp.length++ig lg i.toNat++lh (af lg i 0) k.toNat):layOk sp lg=false:=by
 obtain⟨r,e⟩:=B5 (lg:=lg) lg.length (i+1).toNat (by omega);obtain⟨r2,e2⟩:=Cv (p:=af lg i 0) (af lg i 1).toNat (k+1).toNat (by omega);rw[lY h0,e2,uc k0]at e;have:¬ (rM sp lg).Nodup:=dup (a:=ij sp sp.length++ig lg i.toNat++lh (af lg i 0) k.toNat) (b:=r2++r) (x:=af lg i 0+k) (by unfold rM;rw[e];simp only[List.append_assoc];rfl) h;unfold layOk;rw[decide_eq_false this,Bool.and_false]
theorem BX {sp lg:aa}{i j:Int}(h:upto (KN sp) i)(hi:(sp.length:Int)<=i)(h2:upto (Ma lg) j)(hj:(lg.length:Int)<=j)(hn:(rM sp lg).Nodup):layOk sp lg=true:=by
 unfold layOk;rw[bg h hi,bg h2 hj,decide_eq_true hn];rfl
theorem E9 {sp lg:aa}(h:layOk sp lg=true):(∀ i:Int,0<=i->i<sp.length->spOk (af sp i 0) (af sp i 1) (af sp i 2)=true)/\(∀ i:Int,0<=i->i<lg.length->lgOk (af lg i 0) (af lg i 1) (af lg i 2)=true)/\(rM sp lg).Nodup:=by
 unfold layOk at h;simp only[Bool.and_eq_true,decide_eq_true_eq]at h;exact⟨cI.1 h.1.1,cI.1 h.1.2,h.2⟩
def NG (es:aa):Prop:=∀ e∈es,∃ (k:Int) (b:Bool),e=[.i k,.v (.bool b)]
theorem tT {k:Int}{b:Bool}{es:aa}{n:Int}:db ([.i k,.v (.bool b)]::es) n=if k=n then some (0,.bool b)else(db es n).map fun p=>(p.1+1,p.2):=rfl
theorem ky {k:Int}{b:Bool}{es:aa}{n:Int}:mgbI ([.i k,.v (.bool b)]::es) n=if k=n then b else mgbI es n:=by
 unfold mgbI;rw[tT];by_cases c:k=n
 ·rw[if_pos c,if_pos c]
 ·rw[if_neg c,if_neg c];cases db es n with
  |none=>rfl
  |some p=>obtain⟨j,v⟩:=p;cases v<;>rfl
theorem Cd {k:Int}{b x:Bool}{es:aa}{n:Int}:iK ([.i k,.v (.bool b)]::es) n (.v (.bool x))=if k=n then[.i n,.v (.bool x)]::es else[.i k,.v (.bool b)]::iK es n (.v (.bool x)):=by
 unfold iK;rw[tT];by_cases c:k=n
 ·rw[if_pos c,if_pos c];rfl
 ·rw[if_neg c,if_neg c];cases db es n with
  |none=>rfl
  |some p=>rfl
theorem TV {x:Bool}{n:Int}:∀ {es:aa},NG es->NG (iK es n (.v (.bool x)))/\∀ m,mgbI (iK es n (.v (.bool x))) m=if m=n then x else mgbI es m
 | [],_=>by
   refine⟨fun e he=>?_,fun m=>?_⟩
   ·have:e=[.i n,.v (.bool x)]:=by simpa[iK,db]using he
    exact⟨n,x,this⟩
   ·show mgbI [[.i n,.v (.bool x)]] m=_;rw[ky];by_cases c:m=n
    ·rw[if_pos c.symm,if_pos c]
    ·rw[if_neg (fun e=>c e.symm),if_neg c]
 | e::es,h=>by
   obtain⟨k,b,rfl⟩:=h e (by simp);have h':NG es:=fun e he=>h e (by simp[he])
   obtain⟨a1,a2⟩:=TV (x:=x) (n:=n) h';rw[Cd];by_cases c:k=n
   ·rw[if_pos c];refine⟨fun e he=>?_,fun m=>?_⟩
    ·rcases List.mem_cons.1 he with rfl|he
     ·exact⟨n,x,rfl⟩
     ·exact h' e he
    ·rw[ky,ky];by_cases d:m=n
     ·rw[if_pos d.symm,if_pos d]
     ·rw[if_neg (fun e=>d e.symm),if_neg d,if_neg (fun e=>d (by rw[<-e,c]))]
   ·rw[if_neg c];refine⟨fun e he=>?_,fun m=>?_⟩
    ·rcases List.mem_cons.1 he with rfl|he
     ·exact⟨k,b,rfl⟩
     ·exact a1 e he
    ·rw[ky,ky,a2 m];by_cases d:k=m
     ·rw[if_pos d,if_pos d,if_neg (fun e=>c (d.trans e))]
     ·rw[if_neg d,if_neg d]
def muT (es:aa)(n:Int):aa:=iK es n (.v (.bool true))
structure lD (es:aa)(l:List Int):Prop where
 wf:NG es
 at_:∀ m,mgbI es m=true↔m∈l
theorem AZ :lD [] []:=⟨(fun e he=>by cases he),fun m=>by simp[mgbI,db]⟩
theorem rR {es:aa}{l:List Int}{n:Int}(h:lD es l):lD (iK es n (.v (.bool true))) (l++[n]):=by
 have q:=TV (x:=true) (n:=n) h.wf;refine⟨q.1,fun m=>?_⟩;rw[q.2 m];by_cases c:m=n
 ·rw[if_pos c];simp[c]
 ·rw[if_neg c,h.at_ m];simp[c]
def one (x:Int):aa:=[[.i x]]
structure Hn (sp:aa)(i:Int)(o:aa):Prop where
 e:o=fA (ij sp i.toNat)
 nd:(ij sp i.toNat).Nodup
 ok:upto (KN sp) i
 b:∀ x∈ij sp i.toNat,0<=x/\x<=64
structure Nz (sp lg:aa)(j:Int)(o:aa):Prop where
 e:o=fA (ij sp sp.length++ig lg j.toNat)
 nd:(ij sp sp.length++ig lg j.toNat).Nodup
 oks:upto (KN sp) sp.length
 ok:upto (Ma lg) j
 b:∀ x∈ij sp sp.length++ig lg j.toNat,0<=x/\x<=64
 l:(ig lg j.toNat).length<=64*j.toNat
structure Hm (sp lg:aa)(j k:Int)(o:aa):Prop where
 e:o=fA (ij sp sp.length++ig lg j.toNat++lh (af lg j 0) k.toNat)
 nd:(ij sp sp.length++ig lg j.toNat++lh (af lg j 0) k.toNat).Nodup
 oks:upto (KN sp) sp.length
 ok:upto (Ma lg) j
 b:∀ x∈ij sp sp.length++ig lg j.toNat++lh (af lg j 0) k.toNat,0<=x/\x<=64
 l:(ig lg j.toNat).length<=64*j.toNat
theorem Ed {l:List Int}(h:∀ x∈l,0<=x/\x<=64)(hl:l.length<=70368744177664):Rw [tI] (fA l):=oW (fun x hx=>by have:=h x hx;omega) hl
theorem yy {l:List Int}{x:Int}(h:∀ x∈l,0<=x/\x<=64)(hx:0<=x/\x<=64):∀ y∈l++[x],0<=y/\y<=64:=by
 intro y hy;rcases List.mem_append.1 hy with q|q
 ·exact h y q
 ·simp at q;rw[q];exact hx
theorem SJ {sp:aa}:Hn sp 0 []:=⟨rfl,List.nodup_nil,aX,fun x hx=>by cases hx⟩
theorem Ft {sp o:aa}{i:Int}(h:Hn sp i o):o.length=i.toNat:=by rw[h.e,bW,lp]
theorem O9 {sp o:aa}{i:Int}(h:Hn sp i o)(hi:i<=1073741824):Rw [tI] o:=by
 have l:=Ft h;have e:=h.e;rw[e,bW]at l;rw[e];exact Ed h.b (by omega)
theorem Mi {sp lg o:aa}{i:Int}(h:Hn sp i o)(h0:0<=i)(h1:i<sp.length)(hh:hasB o (af sp i 0)=true):layOk sp lg=false:=by
 rw[h.e,kZ]at hh;exact BV h0 h1 hh
theorem Pb {sp o:aa}{i:Int}(h:Hn sp i o)(h0:0<=i)(hs:spOk (af sp i 0) (af sp i 1) (af sp i 2)=true)(hh:hasB o (af sp i 0)=false):Hn sp (i+1) (o++[[.i (af sp i 0)]]):=by
 have t:=fh hs;have e:=h.e;rw[e]at hh;have hm:=rF hh;exact⟨by rw[kO h0,eo,e];rfl,by rw[kO h0];exact hD h.nd hm,aP h.ok hs,by rw[kO h0];exact yy h.b (by omega)⟩
theorem Mj {sp lg o:aa}{i:Int}(h:Hn sp i o)(h1:i<=sp.length)(h2:(sp.length:Int)<=i):Nz sp lg 0 o:=by
 have e:i.toNat=sp.length:=by omega
 have ei:i=sp.length:=by omega
 have q1:=h.e;have q2:=h.nd;have q3:=h.ok;have q4:=h.b;rw[e]at q1 q2 q4;rw[ei]at q3;exact⟨by rw[q1];simp[ig],by simpa[ig]using q2,q3,aX,by simpa[ig]using q4,by simp[ig]⟩
theorem SI {sp lg o:aa}{j:Int}(h:Nz sp lg j o):Hm sp lg j 0 o:=by
 refine⟨by rw[h.e];simp[lh],by simpa[lh]using h.nd,h.oks,h.ok,by simpa[lh]using h.b,h.l⟩
theorem Fs {sp lg o:aa}{j k:Int}(h:Hm sp lg j k o):o.length<=sp.length+64*j.toNat+k.toNat:=by
 have l:=h.l;rw[h.e,bW,List.length_append,List.length_append,lp,no];omega
theorem O4 {sp lg o:aa}{j k:Int}(h:Hm sp lg j k o)(h1:sp.length<=1073741824)(h2:j<=1073741824)(h3:k<=64):Rw [tI] o:=by
 have l:=Fs h;have e:=h.e;rw[e,bW]at l;rw[e];exact Ed h.b (by omega)
theorem Me {sp lg o:aa}{j k:Int}(h:Hm sp lg j k o)(h0:0<=j)(h1:j<lg.length)(k0:0<=k)(k1:k<af lg j 1)(hh:hasB o (af lg j 0+k)=true):layOk sp lg=false:=by
 rw[h.e,kZ]at hh;exact BW h0 h1 k0 k1 hh
theorem O2 {p n s k:Int}(h:lgOk p n s=true)(k0:0<=k)(k1:k<n):0<=p/\p+k<=32/\bu .add .i64 p k=p+k/\1<=n/\n<=32:=by
 have t:=fH h;have b:=gP t.1;have e:bu .add .i64 p k=p+k:=bj (by omega);exact⟨by omega,by omega,e,by omega,by omega⟩
theorem O5 {sp lg o:aa}{j k:Int}(h:Hm sp lg j k o)(k0:0<=k)(hx:0<=af lg j 0+k/\af lg j 0+k<=64)(hh:hasB o (af lg j 0+k)=false):Hm sp lg j (k+1) (o++[[.i (af lg j 0+k)]]):=by
 have e:=h.e;rw[e]at hh;have hm:=rF hh;have q:∀ A:List Int,A++lh (af lg j 0) (k+1).toNat=A++lh (af lg j 0) k.toNat++[af lg j 0+k]:=fun A=>by rw[uc k0,List.append_assoc]
 exact⟨by rw[q,eo,e];rfl,by rw[q];exact hD h.nd hm,h.oks,h.ok,by rw[q];exact yy h.b hx,h.l⟩
theorem Mf {sp lg o:aa}{j k:Int}(h:Hm sp lg j k o)(j0:0<=j)(hl:lgOk (af lg j 0) (af lg j 1) (af lg j 2)=true)(k0:0<=k)(k1:k<=af lg j 1)(k2:af lg j 1<=k):Nz sp lg (j+1) o:=by
 have t:=fH hl;have b:=gP t.1;have ek:k.toNat=(af lg j 1).toNat:=by omega
 have q1:=h.e;have q2:=h.nd;have q4:=h.b;have q5:=h.l;rw[ek,List.append_assoc, <-lY j0]at q1 q2 q4;refine⟨q1,q2,h.oks,aP h.ok hl,q4,?_⟩;rw[lY j0,List.length_append,no];omega
theorem Mg {sp lg o:aa}{j:Int}(h:Nz sp lg j o)(j1:j<=lg.length)(j2:(lg.length:Int)<=j):layOk sp lg=true:=by
 have e:j.toNat=lg.length:=by omega
 have q:=h.nd;rw[e]at q;exact BX h.oks (Int.le_refl _) h.ok j2 q
end Go.V
namespace Go.V
structure KZ (sp:aa)(i:Int)(es:aa):Prop where
 s:lD es (ij sp i.toNat)
 nd:(ij sp i.toNat).Nodup
 ok:upto (KN sp) i
structure Ny (sp lg:aa)(j:Int)(es:aa):Prop where
 s:lD es (ij sp sp.length++ig lg j.toNat)
 nd:(ij sp sp.length++ig lg j.toNat).Nodup
 oks:upto (KN sp) sp.length
 ok:upto (Ma lg) j
structure KX (sp lg:aa)(j k:Int)(es:aa):Prop where
 s:lD es (ij sp sp.length++ig lg j.toNat++lh (af lg j 0) k.toNat)
 nd:(ij sp sp.length++ig lg j.toNat++lh (af lg j 0) k.toNat).Nodup
 oks:upto (KN sp) sp.length
 ok:upto (Ma lg) j
theorem GE {es:aa}{l:List Int}{n:Int}(h:lD es l)(e:mgbI es n=false):n∉l:=fun m=>by rw[(h.at_ n).2 m]at e;cases e
theorem SC {sp:aa}:KZ sp 0 []:=⟨AZ,List.nodup_nil,aX⟩
theorem L3 {sp lg es:aa}{i:Int}(h:KZ sp i es)(h0:0<=i)(h1:i<sp.length)(hh:mgbI es (af sp i 0)=true):layOk sp lg=false:=
 BV h0 h1 ((h.s.at_ _).1 hh)
theorem OU {sp es:aa}{i:Int}(h:KZ sp i es)(h0:0<=i)(hs:spOk (af sp i 0) (af sp i 1) (af sp i 2)=true)(hh:mgbI es (af sp i 0)=false):KZ sp (i+1) (muT es (af sp i 0)):=
 ⟨by rw[kO h0];exact rR h.s,by rw[kO h0];exact hD h.nd (GE h.s hh),aP h.ok hs⟩
theorem L4 {sp lg es:aa}{i:Int}(h:KZ sp i es)(h1:i<=sp.length)(h2:(sp.length:Int)<=i):Ny sp lg 0 es:=by
 have e:i.toNat=sp.length:=by omega
 have ei:i=sp.length:=by omega
 have q1:=h.s;have q2:=h.nd;have q3:=h.ok;rw[e]at q1 q2;rw[ei]at q3;exact⟨by simpa[ig]using q1,by simpa[ig]using q2,q3,aX⟩
theorem SB {sp lg es:aa}{j:Int}(h:Ny sp lg j es):KX sp lg j 0 es:=
 ⟨by simpa[lh]using h.s,by simpa[lh]using h.nd,h.oks,h.ok⟩
theorem LX {sp lg es:aa}{j k:Int}(h:KX sp lg j k es)(h0:0<=j)(h1:j<lg.length)(k0:0<=k)(k1:k<af lg j 1)(hh:mgbI es (af lg j 0+k)=true):layOk sp lg=false:=
 BW h0 h1 k0 k1 ((h.s.at_ _).1 hh)
theorem OS {sp lg es:aa}{j k:Int}(h:KX sp lg j k es)(k0:0<=k)(hh:mgbI es (af lg j 0+k)=false):KX sp lg j (k+1) (muT es (af lg j 0+k)):=by
 have q:∀ A:List Int,A++lh (af lg j 0) (k+1).toNat=A++lh (af lg j 0) k.toNat++[af lg j 0+k]:=fun A=>by rw[uc k0,List.append_assoc]
 exact⟨by rw[q];exact rR h.s,by rw[q];exact hD h.nd (GE h.s hh),h.oks,h.ok⟩
theorem LY {sp lg es:aa}{j k:Int}(h:KX sp lg j k es)(j0:0<=j)(hl:lgOk (af lg j 0) (af lg j 1) (af lg j 2)=true)(k1:k<=af lg j 1)(k2:af lg j 1<=k):Ny sp lg (j+1) es:=by
 have ek:k.toNat=(af lg j 1).toNat:=by omega
 have q1:=h.s;have q2:=h.nd;rw[ek,List.append_assoc, <-lY j0]at q1 q2;exact⟨q1,q2,h.oks,aP h.ok hl⟩
theorem LZ {sp lg es:aa}{j:Int}(h:Ny sp lg j es)(j1:j<=lg.length)(j2:(lg.length:Int)<=j):layOk sp lg=true:=by
 have e:j.toNat=lg.length:=by omega
 have q:=h.nd;rw[e]at q;exact BX h.oks (Int.le_refl _) h.ok j2 q
theorem PL {b:Bool}(h:(!b)=false):b=true:=by cases b<;>simp_all
theorem PM {b:Bool}(h:(!b)=true):b=false:=by cases b<;>simp_all
end Go.V
namespace Go.V
def uH (sp:aa)(a i:Int):Bool:=decide (0<=saS (af sp i 0) (af sp i 1) (af sp i 2) a)
def vz (lg:aa)(a i:Int):Bool:=lhB (af lg i 0) (af lg i 1) (af lg i 2) a
def eS (sp:aa)(a:Int):Int:=cF (uH sp a) sp.length
def ko (lg:aa)(a:Int):Int:=cF (vz lg a) lg.length
def IM (sp:aa)(a i:Int):Int:=saS (af sp i 0) (af sp i 1) (af sp i 2) a
def KM (sp:aa)(a i:Int):Int:=saO (af sp i 0) (af sp i 1) (af sp i 2) a
def O6 (lg:aa)(a i:Int):Int:=loI (af lg i 0) (af lg i 1) (af lg i 2) a
def dnK (sp lg:aa)(a:Int):Int:=if 0<=eS sp a then(if hsB (af sp (eS sp a) 2) (IM sp a (eS sp a))then 1 else 2)else if 0<=ko lg a then 3 else 0
def dnI (sp lg:aa)(a:Int):Int:=if 0<=eS sp a then eS sp a else if 0<=ko lg a then ko lg a else 0
def dnS (sp:aa)(a:Int):Int:=if 0<=eS sp a then IM sp a (eS sp a)else 0
def dnO (sp lg:aa)(a:Int):Int:=if 0<=eS sp a then KM sp a (eS sp a)else if 0<=ko lg a then O6 lg a (ko lg a)else 0
def dzK (sp lg:aa)(a:Int):Int:=if layOk sp lg then dnK sp lg a else 0
def dzI (sp lg:aa)(a:Int):Int:=if layOk sp lg then dnI sp lg a else 0
def dzS (sp lg:aa)(a:Int):Int:=if layOk sp lg then dnS sp a else 0
def dzO (sp lg:aa)(a:Int):Int:=if layOk sp lg then dnO sp lg a else 0
theorem QN {sp:aa}{a i:Int}(h:upto (bZ (uH sp a)) i)(hs:saS (af sp i 0) (af sp i 1) (af sp i 2) a<0):upto (bZ (uH sp a)) (i+1):=
 aP h (by unfold bZ uH;rw[decide_eq_false (by omega)];rfl)
theorem OW {lg:aa}{a i:Int}(h:upto (bZ (vz lg a)) i)(hs:lhB (af lg i 0) (af lg i 1) (af lg i 2) a=false):upto (bZ (vz lg a)) (i+1):=
 aP h (by unfold bZ vz;rw[hs];rfl)
theorem JR {sp:aa}{a i:Int}(h:upto (bZ (uH sp a)) i)(h0:0<=i)(h1:i<sp.length)(hs:0<=saS (af sp i 0) (af sp i 1) (af sp i 2) a):eS sp a=i:=
 cO h h0 h1 (decide_eq_true hs)
theorem JS {sp:aa}{a i:Int}(h:upto (bZ (uH sp a)) i)(h1:(sp.length:Int)<=i):eS sp a= -1:=cP h h1
theorem Og {lg:aa}{a i:Int}(h:upto (bZ (vz lg a)) i)(h0:0<=i)(h1:i<lg.length)(hs:lhB (af lg i 0) (af lg i 1) (af lg i 2) a=true):ko lg a=i:=
 cO h h0 h1 hs
theorem Oh {lg:aa}{a i:Int}(h:upto (bZ (vz lg a)) i)(h1:(lg.length:Int)<=i):ko lg a= -1:=cP h h1
def MN (k i s o:Int):List DV:=[DV.agg [.i k,.i i,.i s,.i o]]
def He (sp lg:aa)(a:Int):List DV:=MN (dnK sp lg a) (dnI sp lg a) (dnS sp a) (dnO sp lg a)
def RG (sp lg:aa)(a:Int):List DV:=MN (dzK sp lg a) (dzI sp lg a) (dzS sp lg a) (dzO sp lg a)
theorem TY {sp lg:aa}{a i:Int}(h:upto (bZ (uH sp a)) i)(h0:0<=i)(h1:i<sp.length)(hs:0<=saS (af sp i 0) (af sp i 1) (af sp i 2) a)(hh:hsB (af sp i 2) (saS (af sp i 0) (af sp i 1) (af sp i 2) a)=true):
 MN 1 i (saS (af sp i 0) (af sp i 1) (af sp i 2) a) (saO (af sp i 0) (af sp i 1) (af sp i 2) a)=He sp lg a:=by
 have e:=JR h h0 h1 hs;unfold He dnK dnI dnS dnO IM KM;rw[e,if_pos h0,if_pos h0,if_pos h0,if_pos h0,hh];rfl
theorem TZ {sp lg:aa}{a i:Int}(h:upto (bZ (uH sp a)) i)(h0:0<=i)(h1:i<sp.length)(hs:0<=saS (af sp i 0) (af sp i 1) (af sp i 2) a)(hh:hsB (af sp i 2) (saS (af sp i 0) (af sp i 1) (af sp i 2) a)=false):
 MN 2 i (saS (af sp i 0) (af sp i 1) (af sp i 2) a) (saO (af sp i 0) (af sp i 1) (af sp i 2) a)=He sp lg a:=by
 have e:=JR h h0 h1 hs;unfold He dnK dnI dnS dnO IM KM;rw[e,if_pos h0,if_pos h0,if_pos h0,if_pos h0,hh];rfl
theorem T0 {sp lg:aa}{a i j:Int}(h:upto (bZ (uH sp a)) i)(h1:(sp.length:Int)<=i)(g:upto (bZ (vz lg a)) j)(j0:0<=j)(j1:j<lg.length)(hh:lhB (af lg j 0) (af lg j 1) (af lg j 2) a=true):
 MN 3 j 0 (loI (af lg j 0) (af lg j 1) (af lg j 2) a)=He sp lg a:=by
 have e:=JS h h1;have f:=Og g j0 j1 hh;have n:¬ (0:Int)<= -1:=by omega
 unfold He dnK dnI dnS dnO O6;rw[e,f,if_neg n,if_neg n,if_neg n,if_neg n,if_pos j0,if_pos j0,if_pos j0]
theorem T3 {sp lg:aa}{a i j:Int}(h:upto (bZ (uH sp a)) i)(h1:(sp.length:Int)<=i)(g:upto (bZ (vz lg a)) j)(j1:(lg.length:Int)<=j):
 MN 0 0 0 0=He sp lg a:=by
 have e:=JS h h1;have f:=Oh g j1;have n:¬ (0:Int)<= -1:=by omega
 unfold He dnK dnI dnS dnO;rw[e,f,if_neg n,if_neg n,if_neg n,if_neg n,if_neg n,if_neg n,if_neg n]
theorem HO {sp lg:aa}{a:Int}(h:layOk sp lg=true):He sp lg a=RG sp lg a:=by
 unfold RG He dzK dzI dzS dzO;rw[if_pos h,if_pos h,if_pos h,if_pos h]
theorem R3 {sp lg:aa}{a:Int}(h:layOk sp lg=false):MN 0 0 0 0=RG sp lg a:=by
 have n:¬ layOk sp lg=true:=by rw[h];decide
 unfold RG dzK dzI dzS dzO;rw[if_neg n,if_neg n,if_neg n,if_neg n]
end Go.V
namespace Go.V
def re (sp lg:aa)(a:Int):Bool:=decide (dzO sp lg a=0)&&(decide (dzK sp lg a=1)||decide (dzK sp lg a=3))
def Hg (sp lg:aa):Nat->aa
 |0=>[]
 |n+1=>Hg sp lg n++(if re sp lg n then[[.i n]]else[])
def laL (sp lg:aa):aa:=if layOk sp lg then Hg sp lg 512 else[]
structure Hl (sp lg:aa)(i:Int)(o:aa):Prop where
 e:o=Hg sp lg i.toNat
 l:o.length<=i.toNat
 y:0<i->layOk sp lg=true
theorem SD {sp lg:aa}:Hl sp lg 0 []:=⟨rfl,Nat.le_refl _,fun h=>absurd h (by omega)⟩
theorem E6 {sp lg:aa}{i:Int}(h:0<=i):Hg sp lg (i+1).toNat=Hg sp lg i.toNat++(if re sp lg i then[[.i i]]else[]):=by
 rw[show(i+1).toNat=i.toNat+1 from by omega,Hg,Int.toNat_of_nonneg h]
theorem E8 {sp lg o:aa}{i:Int}(h:Hl sp lg i o)(h0:0<=i)(hl:layOk sp lg=true)(hv:re sp lg i=true):Hl sp lg (i+1) (o++[[.i i]]):=by
 have e:=h.e;have l:=h.l;refine⟨by rw[E6 h0,if_pos hv, <-e],?_,fun _=>hl⟩;rw[List.length_append,List.length_cons,List.length_nil];omega
theorem J3 {sp lg o:aa}{i:Int}(h:Hl sp lg i o)(h0:0<=i)(hl:layOk sp lg=true)(hv:re sp lg i=false):Hl sp lg (i+1) o:=by
 have e:=h.e;have l:=h.l;refine⟨by rw[E6 h0,hv, <-e];simp,?_,fun _=>hl⟩;omega
theorem L6 {sp lg o:aa}{i:Int}(h:Hl sp lg i o)(h1:i<=512)(h2:512<=i):o=laL sp lg:=by
 have e:i=512:=by omega
 subst e;unfold laL;rw[if_pos (h.y (by omega))];exact h.e
theorem L5 {sp lg o:aa}{i:Int}(h:Hl sp lg i o)(h0:0<=i)(hl:layOk sp lg=false):o=laL sp lg:=by
 have z:i=0:=by
  by_cases c:0<i
  ·have:=h.y c;rw[hl]at this;cases this
  ·omega
 subst z;unfold laL;rw[hl];exact h.e
theorem Pg {sp lg:aa}{a:Int}(h:dzO sp lg a=0)(k:dzK sp lg a=1):re sp lg a=true:=by unfold re;rw[h,k];rfl
theorem Ph {sp lg:aa}{a:Int}(h:dzO sp lg a=0)(k:dzK sp lg a=3):re sp lg a=true:=by unfold re;rw[h,k];rfl
theorem Pd {sp lg:aa}{a:Int}(h:dzO sp lg a≠0):re sp lg a=false:=by unfold re;rw[decide_eq_false h];rfl
theorem Pe {sp lg:aa}{a:Int}(h:dzK sp lg a≠1)(k:dzK sp lg a≠3):re sp lg a=false:=by unfold re;rw[decide_eq_false h,decide_eq_false k,Bool.or_false,Bool.and_false]
theorem gH {a b:aa}(h:a=b):[DV.one (.s 1 a)]=[DV.one (.s 1 b)]:=by rw[h]
end Go.V