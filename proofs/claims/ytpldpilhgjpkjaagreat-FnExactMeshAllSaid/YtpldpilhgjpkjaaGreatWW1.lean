/-
  slices.Delete at rows of records: what the memory holds behind it.
-/
import Derived.Test.YtpldpilhgjpkjaaGreatWVC
import Derived.Deep.RegionLaw
import Derived.Lib.SliceRun
import Derived.Laws.IdiomCopy
import Derived.Shelf.RegionOpenPlain
import Derived.Deep.LoopGhost
import Derived.Lib.Walk
set_option linter.all false
open Go
open Builtin renaming clear_->Wx,zeroCells->Yn
open List renaming length_cons->Zp,getElem?_append_right->ZX,size_toArray->Yw,take_append_drop->ZR,length_take->Zm,length_drop->Zz,length->XO,length_append->Zh,take_take->YV,take_append_of_le_length->Vi,take_of_length_le->Yj,drop_append_of_le_length->Vj,drop_take->YL,take_append->Xp,nodup_cons->Yr,mem_append->Zg,nodup_append->Zu
open Nat renaming le_refl->Zf,mul_le_mul_right->Z4,add_assoc->YD,add_mul->Zs,min_eq_left->Xs
open World renaming setCell->Vh,cell?->YJ,frozen?->XJ
open _root_.Array renaming getElem?_modify->YM,length_toList->ZS
namespace Go.V
def Fz {w:World}{b o:Nat}{v:Value}{cur:Array Value}{ty:TypeId}{fz:Nat×Nat}(h:w.heap[b]?=some (.cells cur ty fz)):
 (w.setCell ⟨b,o,none⟩ v).heap[b]?=some (.cells (cur.setIfInBounds o v) ty fz):=by
 simp[Vh,YM,h]
def yW {w:World}{b o c:Nat}{v:Value}(h:c≠b):(w.setCell ⟨b,o,none⟩ v).heap[c]?=w.heap[c]?:=by
 simp only[Vh,YM];rw[VF (fun e=>h e.symm)]
def jY {b:Nat}{ty:TypeId}{fz:Nat×Nat}:∀ (vs:List Value) (o:Nat) (w:World) (cur:Array Value),w.heap[b]?=some (.cells cur ty fz)->o+vs.length<=cur.size->
 ∃ cur',(w.setCells b o vs).heap[b]?=some (.cells cur' ty fz)/\cur'.toList=cur.toList.take o++(vs++cur.toList.drop (o+vs.length))
 |[],o,w,cur,h,hl=>⟨cur,h,by simp⟩
 | v::vs,o,w,cur,h,hl=>by
   simp only[Zp]at hl;obtain⟨cur',h1,h2⟩:=jY vs (o+1) (w.setCell ⟨b,o,none⟩ v) _ (Fz h) (by rw[Array.size_setIfInBounds];omega);refine⟨cur',h1,?_⟩;rw[h2,Array.toList_setIfInBounds];have hlt:o<cur.toList.length:=by rw[ZS];omega
   have e1:(cur.toList.set o v).take (o+1)=cur.toList.take o++[v]:=by
    rw[List.take_succ];rw[List.take_set_of_le (Zf _),List.getElem?_set_self hlt];rfl
   have e2:(cur.toList.set o v).drop (o+1+vs.length)=cur.toList.drop (o+1+vs.length):=List.drop_set_of_lt Uc;rw[e1,e2,Zp,List.append_assoc,show o+1+vs.length=o+(vs.length+1)from by omega];rfl
def jO {b c:Nat}(hc:c≠b):∀ (vs:List Value) (o:Nat) (w:World),(w.setCells b o vs).heap[c]?=w.heap[c]?
 |[],_,_=>rfl
 |v::vs,o,w=>by rw[World.setCells,jO hc vs,yW hc]
def oN {b:Nat}:∀ (vs:List Value) (o:Nat) (w:World),(w.setCells b o vs).os=w.os/\(w.setCells b o vs).tape=w.tape/\(w.setCells b o vs).output=w.output/\(w.setCells b o vs).heap.size=w.heap.size
 |[],_,_=>⟨rfl,rfl,rfl,rfl⟩
 | v::vs,o,w=>by
   obtain⟨h1,h2,h3,h4⟩:=oN (b:=b) vs (o+1) (w.setCell ⟨b,o,none⟩ v);exact⟨h1,h2,h3,h4.trans (by simp)⟩
structure tE (w:World)(sz:Nat)(es:ab)(b off cap i j:Nat)(S:List Nat)(v1 v2 v3:List Value):Prop where
 hcap:es.length<=cap
 hm:cap<=maxLen
 hij:i<=j
 hj:j<=es.length
 l1:v1.length=i*sz
 l2:v2.length=(j-i)*sz
 l3:v3.length=(es.length-j)*sz
 row:∃ cur ty,w.heap[b]?=some (.cells cur ty (0,0))/\off+cap*sz<=cur.size/\(cur.toList.drop off).take (es.length*sz)=v1++(v2++v3)
 one:∀ u∈v3,u.oneCell'=true
def tE.cell {w:World}{sz:Nat}{es:ab}{b off cap i j:Nat}{S:List Nat}{v1 v2 v3:List Value}(F:tE w sz es b off cap i j S v1 v2 v3){t:Nat}{u:Value}(h:(v1++(v2++v3))[t]?=some u):w.cell? ⟨b,off+t,none⟩=some u:=by
 obtain⟨cur,ty,h1,h2,h3⟩:=F.row;rw[<-h3]at h;simp only[YJ,h1];rw[List.getElem?_take]at h;split at h
 ·rw[List.getElem?_drop]at h
  simpa using h
 ·cases h
def tE.is {w:World}{sz:Nat}{es:ab}{b off cap i j:Nat}{S:List Nat}{v1 v2 v3:List Value}(F:tE w sz es b off cap i j S v1 v2 v3){t:Nat}(h:t<es.length*sz):(w.cell? ⟨b,off+t,none⟩).isSome=true/\w.frozen? ⟨b,off+t,none⟩=false:=by
 obtain⟨cur,ty,h1,h2,h3⟩:=F.row;have:es.length*sz<=cap*sz:=Z4 _ F.hcap
 constructor
 ·simp only[YJ,h1];simp;omega
 ·simp only[XJ,h1];simp
def tE.src {w:World}{sz:Nat}{es:ab}{b off cap i j:Nat}{S:List Nat}{v1 v2 v3:List Value}(F:tE w sz es b off cap i j S v1 v2 v3):
 ∃ A:Addr,(if cap=j then some (⟨b,off,none⟩:Addr)else some ⟨b,off+j*sz,none⟩)=some A/\(∀ t u,v3[t]?=some u->w.drew.cell? (A.add t)=some u):=by
 have hl:=F.l3;have h1:=F.l1;have h2:=F.l2;have hc:=F.hcap;have hj:=F.hj;have hij:=F.hij;by_cases h:cap=j
 ·refine⟨⟨b,off,none⟩,by simp[h],fun t u hu=>?_⟩;have:v3.length=0:=by rw[hl,show es.length-j=0 from by omega,Nat.zero_mul]
  rw[List.length_eq_zero_iff.1 this]at hu;simp at hu
 ·refine⟨⟨b,off+j*sz,none⟩,by simp[h],fun t u hu=>?_⟩;have e:(⟨b,off+j*sz,none⟩:Addr).add t=⟨b,off+(j*sz+t),none⟩:=by unfold Addr.add;simp[YD]
  rw[e];show w.cell? _=some u;refine F.cell ?_;have e2:i*sz+(j-i)*sz=j*sz:=by rw[<-Zs];congr 1;omega
  rw[ZX Uc,ZX Uc, <-hu]
  congr 1;omega
def yV {P:Program}(w:World)(t e ty:TypeId)(z:Value)(zc:List Value)(ht:P.underlying t=some (.slice e))(hv:∀ w,(zeroValue e).run P w=.ok z w)(hz:z.cells=zc.toArray)(h1:∀ u∈zc,u.oneCell'=true)(b o n c:Nat)(hn:0<n) 
 (hc:∀ j,j<n*zc.length->(w.cell? ⟨b,o+j,none⟩).isSome=true/\w.frozen? ⟨b,o+j,none⟩=false):
 (Wx #[t] ty #[.slice (some ⟨b,o,none⟩) n c]).run P w=.ok (.tuple #[]) (w.setCells b o (Yn z.cells n).toList):=by
 have hlen:(Yn z.cells n).toList.length=n*zc.length:=by rw[hz];simp[Yn]
 have h1':∀ u∈(Yn z.cells n).toList,u.oneCell'=true:=by
  intro u hu;rw[hz]at hu;simp only[Yn,Array.toList_map,Array.toList_range,List.mem_map,List.mem_range]at hu;obtain⟨k,hk,rfl⟩:=hu;simp only[Yw]at hk ⊢;have hpos:0<zc.length:=by
   rcases Nat.eq_zero_or_pos zc.length with h|h
   ·rw[h]at hk;simp at hk
   ·exact h
  have hlt:k%zc.length<zc.length:=Nat.mod_lt _ hpos;rw[getElem!_pos _ _ (by simpa using hlt)];exact h1 _ (by simp)
 have hst:=run_storeCells_cells (P:=P) b o (Yn z.cells n).toList 0 w (by rw[hlen];simpa using fun j hj=>(hc j hj).1) (by rw[hlen];simpa using fun j hj=>(hc j hj).2) h1';simp only[Nat.add_zero]at hst;obtain⟨m,rfl⟩:∃ m,n=m+1:=⟨n-1,Uc⟩;simp[Wx,run_underlying ht,hv,hst]
def tE.of {w:World}{sz:Nat}{es:ab}{b off cap i j:Nat}{S:List Nat}(h:bN w (.s sz es) (.slice (some ⟨b,off,none⟩) es.length cap) S)(hc0:cap≠0)(hU:∀ c∈S,eV w c)(hij:i<=j)(hj:j<=es.length):
 ∃ v1 v2 v3 S1 S2 S3,tE w sz es b off cap i j S v1 v2 v3/\S=b::(S1++(S2++S3))/\bH w sz (es.take i) v1 S1/\bH w sz (es.drop j) v3 S3:=by
 simp only[bN]at h;obtain⟨base,len,cap',e,h2,h3,h4,h5⟩:=h;cases e;rcases h5 with⟨h5,_⟩|⟨b',off',cur,ty,fz,S',e1,e2,e3,e4,rfl⟩;exact absurd h5 hc0
 cases e1;have hf:=(hU b (by simp)).cells e2;subst hf;have hsp:es=es.take i++((es.drop i).take (j-i)++es.drop j):=by
  rw[show es.drop j=(es.drop i).drop (j-i)from by rw[List.drop_drop];congr 1;omega,ZR,ZR]
 have e4':=e4;rw[hsp]at e4';obtain⟨v1,vr,S1,Sr,q1,rfl,r1,r2⟩:=bH.split e4';obtain⟨v2,v3,S2,S3,q2,rfl,r3,r4⟩:=bH.split r2;subst q2;have l1:=r1.length;have l2:=r3.length;have l3:=r4.length;rw[Zm,Xs Uc]at l1;rw[Zm,Zz,Xs Uc]at l2;rw[Zz]at l3;refine⟨v1,v2,v3,S1,S2,S3,⟨h3,h4,hij,hj,l1,l2,l3,⟨cur,ty,e2,e3,?_⟩,bH.ones r4⟩,rfl,r1,r4⟩;rw[<-hsp]at q1;exact q1
def tE.done {w:World}{sz:Nat}{es:ab}{b off cap i j:Nat}{S S1 S2 S3:List Nat}{v1 v2 v3 zs:List Value}(F:tE w sz es b off cap i j S v1 v2 v3)(hS:S=b::(S1++(S2++S3)))(hr1:bH w sz (es.take i) v1 S1)(hr3:bH w sz (es.drop j) v3 S3) 
 (hnd:S.Nodup) (hU:∀ c∈S,eV w c) (hz:zs.length=(j-i)*sz) {w0 W:World} (h0:w0.heap=w.heap/\w0.os=w.os/\w0.tape=w.tape/\w0.output=w.output) (hW:W=(w0.setCells b (off+i*sz) v3).setCells b (off+(i+(es.length-j))*sz) zs):
 ∃ Sr,bN W (.s sz (es.take i++es.drop j)) (.slice (some ⟨b,off,none⟩) (i+(es.length-j)) cap) Sr/\Sr.Nodup/\(∀ c∈Sr,eV W c/\c∈S)/\Same (fun c=>c∉S) w W:=by
 obtain⟨cur,ty,g1,g2,g3⟩:=F.row;have hcap:=F.hcap;have hij:=F.hij;have hj:=F.hj;have l1:=F.l1;have l2:=F.l2;have l3:=F.l3;have hle:es.length*sz<=cap*sz:=Z4 _ hcap;have m1:i*sz+(es.length-j)*sz=(i+(es.length-j))*sz:=by rw[Zs]
 have m2:(i+(es.length-j))*sz+(j-i)*sz=es.length*sz:=by rw[<-Zs];congr 1;omega
 obtain⟨cur1,a1,a2⟩:=jY v3 (off+i*sz) w0 cur (by rw[h0.1];exact g1) Uc;have z1:cur1.size=cur.size:=by
  have:=congrArg XO a2;simp only[ZS,Zh,Zm,Zz]at this;omega
 obtain⟨cur2,b1,b2⟩:=jY zs (off+(i+(es.length-j))*sz) _ cur1 a1 Uc;have z2:cur2.size=cur1.size:=by
  have:=congrArg XO b2;simp only[ZS,Zh,Zm,Zz]at this;omega
 rw[<-hW]at b1;have hne:∀ c,c≠b->W.heap[c]?=w.heap[c]?:=by
  intro c hc;rw[hW,jO hc,jO hc,h0.1]
 have hrow:(cur2.toList.drop off).take ((i+(es.length-j))*sz)=v1++v3:=by
  have p1:v1=(cur.toList.drop off).take (i*sz):=by
   have:=congrArg (List.take (i*sz)) g3;rw[YV,Vi Uc,Yj (l:=v1) Uc,Xs Uc]at this;exact this.symm
  rw[b2];rw[Vj (by simp;omega),Vi (by simp;omega)];rw[YL,YV,show min ((i+(es.length-j))*sz) (off+(i+(es.length-j))*sz-off)=i*sz+(es.length-j)*sz from by omega];rw[a2,Vj (by simp;omega),Xp,Xp];simp only[YL,Zm,Zz,ZS];rw[YV,show min (i*sz+(es.length-j)*sz) (off+i*sz-off)=i*sz from by omega, <-p1]
  congr 1
  rw[Yj (l:=v3) Uc];rw[show i*sz+(es.length-j)*sz-min (off+i*sz-off) (cur.size-off)-v3.length=0 from by omega];simp
 subst hS;have hb:b∉S1++(S2++S3):=(Yr.1 hnd).1;have hnd':=(Yr.1 hnd).2;refine⟨b::(S1++S3),?_,?_,?_,?_⟩
 ·simp only[bN];refine⟨_,_,_,rfl,by rw[Zh,Zm,Zz];omega,Uc,F.hm,.inr ⟨b,off,cur2,ty,(0,0),S1++S3,rfl,b1,Uc,?_,rfl⟩⟩;rw[hrow];refine bH.keep sz _ _ _ (bH.append hr1 hr3) (fun c hc=>hne c (fun e=>hb ?_));subst e;rcases Zg.1 hc with h|h<;>simp[h]
 ·rw[Yr];refine⟨fun h=>hb ?_,?_⟩
  ·rcases Zg.1 h with h|h<;>simp[h]
  ·rw[Zu]at hnd' ⊢;obtain⟨d1,d2,d3⟩:=hnd';rw[Zu]at d2;exact⟨d1,d2.2.1,fun c hc d hd=>d3 c hc d (by simp[hd])⟩
 ·intro c hc;have hmem:c∈b::(S1++(S2++S3)):=by
   rcases List.mem_cons.1 hc with h|h
   ·simp[h]
   ·rcases Zg.1 h with h|h<;>simp[h]
  refine⟨?_,hmem⟩;by_cases e:c=b
  ·subst e;exact .inl ⟨cur2,ty,b1⟩
  ·exact(hU c hmem).keep (hne c e)
 ·obtain⟨s1,s2,s3,s4⟩:=oN (b:=b) zs (off+(i+(es.length-j))*sz) (w0.setCells b (off+i*sz) v3);obtain⟨t1,t2,t3,t4⟩:=oN (b:=b) v3 (off+i*sz) w0;rw[<-hW]at s1 s2 s3 s4;refine⟨(s1.trans t1).trans h0.2.1,(s2.trans t2).trans h0.2.2.1,(s3.trans t3).trans h0.2.2.2,by rw[s4,t4,h0.1];exact Zf _,fun c _ hc=>hne c (fun e=>hc (by simp[e]))⟩
def tE.is1 {w:World}{sz:Nat}{es:ab}{b off cap i j:Nat}{S:List Nat}{v1 v2 v3:List Value}(F:tE w sz es b off cap i j S v1 v2 v3){t:Nat}(h:t<es.length*sz):
 ((w.drew.setCells b (off+i*sz) v3).cell? ⟨b,off+t,none⟩).isSome=true/\(w.drew.setCells b (off+i*sz) v3).frozen? ⟨b,off+t,none⟩=false:=by
 obtain⟨cur,ty,h1,h2,h3⟩:=F.row;have hle:es.length*sz<=cap*sz:=Z4 _ F.hcap;have m1:i*sz+(es.length-j)*sz<=es.length*sz:=by rw[<-Zs];exact Z4 _ (by have:=F.hij;have:=F.hj;omega)
 have l3:=F.l3;obtain⟨cur1,a1,a2⟩:=jY v3 (off+i*sz) w.drew cur h1 Uc;have z1:=congrArg XO a2;simp only[ZS,Zh,Zm,Zz]at z1
 constructor
 ·simp only[YJ,a1];simp;omega
 ·simp only[XJ,a1];simp
def wR (zc:Array Value)(n:Nat):(Yn zc n).toList.length=n*zc.size:=by simp[Yn]
def tE.clear {P:Program}{w:World}{sz:Nat}{es:ab}{b off cap i j:Nat}{S:List Nat}{v1 v2 v3:List Value}(F:tE w sz es b off cap i j S v1 v2 v3)(hlt:i<j){t e:TypeId}{z:Value}(zc:List Value)(ht:P.underlying t=some (.slice e))(hv:∀ w,(zeroValue e).run P w=.ok z w)(hz:z.cells=zc.toArray)(h1:∀ u∈zc,u.oneCell'=true)(hl:zc.length=sz):
 ∃ zs,zs.length=(j-i)*sz/\∀ ty,(Wx #[t] ty #[.slice (some ⟨b,off+(i+(es.length-j))*sz,none⟩) (es.length- (i+(es.length-j))) (cap- (i+(es.length-j)))]).run P (w.drew.setCells b (off+i*sz) v3)=.ok (.tuple #[]) ((w.drew.setCells b (off+i*sz) v3).setCells b (off+(i+(es.length-j))*sz) zs):=by
 have hij:=F.hij;have hj:=F.hj;refine⟨(Yn z.cells (es.length- (i+(es.length-j)))).toList,?_,fun ty=>?_⟩
 ·rw[wR,hz,Yw,hl];congr 1;omega
 ·refine yV _ t e ty z zc ht hv hz h1 b _ _ _ Uc (fun k hk=>?_);rw[YD];refine F.is1 ?_;rw[hl]at hk;have:(i+(es.length-j))*sz+(es.length- (i+(es.length-j)))*sz=es.length*sz:=by rw[<-Zs];congr 1;omega
  omega
def aap (es:ab)(i j:Int):ab:=es.take i.toNat++es.drop j.toNat
end Go.V