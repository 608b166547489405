/-
  slices.Delete at rows of records: what the memory holds behind it.
-/
import Derived.Test.YtcbcfelbafccpaaGreatXVC
import Derived.Deep.RegionLaw
import Derived.Lib.SliceRun
import Derived.Laws.IdiomCopy
import Derived.Shelf.RegionOpenPlain
import Derived.Deep.LoopGhost
import Derived.Lib.Walk
set_option linter.all false
open Go
open Builtin renaming clear_->XU,zeroCells->Ya
open Int renaming eq_ofNat_of_zero_le->Yh,ofNat_eq_natCast->XW,toNat_natCast->ZI
open IntKind renaming i64->Za
open List renaming length_cons->Zr,getElem?_append_right->ZM,size_toArray->Yf,take_append_drop->ZK,length_take->Zi,length_drop->Zo,length->YL,length_append->Zh,take_take->Y5,take_append_of_le_length->XV,take_of_length_le->Yg,drop_append_of_le_length->Vp,drop_take->YN,take_append->Xo,nodup_cons->Yn,mem_append->Zg,nodup_append->Zu
open Nat renaming le_refl->Zf,mul_le_mul_right->ZJ,add_assoc->Yx,add_mul->Zl,min_eq_left->Y2
open World renaming setCell->Vo,cell?->Yp,frozen?->Y3
open _root_.Array renaming getElem?_modify->YQ,length_toList->ZF
namespace Go.V
def yZ {w:World}{b o:Nat}{v:Value}{cur:Array Value}{ty:TypeId}{fz:Nat×Nat}(h:w.heap[b]?=some (.cells cur ty fz)):
 (w.setCell ⟨b,o,none⟩ v).heap[b]?=some (.cells (cur.setIfInBounds o v) ty fz):=by
 simp[Vo,YQ,h]
def t8 {w:World}{b o c:Nat}{v:Value}(h:c≠b):(w.setCell ⟨b,o,none⟩ v).heap[c]?=w.heap[c]?:=by
 simp only[Vo,YQ];rw[VK (fun e=>h e.symm)]
def du {b:Nat}{ty:TypeId}{fz:Nat×Nat}:∀ (vs:List Value) (o:Nat) (w:World) (cur:Array Value),w.heap[b]?=some (.cells cur ty fz)->o+vs.length<=cur.size->
 ∃ cur',(w.setCells b o vs).heap[b]?=some (.cells cur' ty fz)/\cur'.toList=cur.toList.take o++(vs++cur.toList.drop (o+vs.length))
 |[],o,w,cur,h,hl=>⟨cur,h,by simp⟩
 | v::vs,o,w,cur,h,hl=>by
   simp only[Zr]at hl;obtain⟨cur',h1,h2⟩:=du vs (o+1) (w.setCell ⟨b,o,none⟩ v) _ (yZ h) (by rw[Array.size_setIfInBounds];omega);refine⟨cur',h1,?_⟩;rw[h2,Array.toList_setIfInBounds];have hlt:o<cur.toList.length:=by rw[ZF];omega
   have e1:(cur.toList.set o v).take (o+1)=cur.toList.take o++[v]:=by
    rw[List.take_succ];rw[List.take_set_of_le (Zf _),List.getElem?_set_self hlt];rfl
   have e2:(cur.toList.set o v).drop (o+1+vs.length)=cur.toList.drop (o+1+vs.length):=List.drop_set_of_lt Uc;rw[e1,e2,Zr,List.append_assoc,show o+1+vs.length=o+(vs.length+1)from by omega];rfl
def cX {b c:Nat}(hc:c≠b):∀ (vs:List Value) (o:Nat) (w:World),(w.setCells b o vs).heap[c]?=w.heap[c]?
 |[],_,_=>rfl
 |v::vs,o,w=>by rw[World.setCells,cX hc vs,t8 hc]
def dU {b:Nat}:∀ (vs:List Value) (o:Nat) (w:World),(w.setCells b o vs).os=w.os/\(w.setCells b o vs).tape=w.tape/\(w.setCells b o vs).output=w.output/\(w.setCells b o vs).heap.size=w.heap.size
 |[],_,_=>⟨rfl,rfl,rfl,rfl⟩
 | v::vs,o,w=>by
   obtain⟨h1,h2,h3,h4⟩:=dU (b:=b) vs (o+1) (w.setCell ⟨b,o,none⟩ v);exact⟨h1,h2,h3,h4.trans (by simp)⟩
structure mW (w:World)(sz:Nat)(es:af)(b off cap i j:Nat)(S:List Nat)(v1 v2 v3:List Value):Prop where
 hcap:es.length<=cap
 hm:cap<=maxLen
 hij:i<=j
 hj:j<=es.length
 l1:v1.length=i*sz
 l2:v2.length=(j-i)*sz
 l3:v3.length=(es.length-j)*sz
 row:∃ cur ty,w.heap[b]?=some (.cells cur ty (0,0))/\off+cap*sz<=cur.size/\(cur.toList.drop off).take (es.length*sz)=v1++(v2++v3)
 one:∀ u∈v3,u.oneCell'=true
def mW.cell {w:World}{sz:Nat}{es:af}{b off cap i j:Nat}{S:List Nat}{v1 v2 v3:List Value}(F:mW w sz es b off cap i j S v1 v2 v3){t:Nat}{u:Value}(h:(v1++(v2++v3))[t]?=some u):w.cell? ⟨b,off+t,none⟩=some u:=by
 obtain⟨cur,ty,h1,h2,h3⟩:=F.row;rw[<-h3]at h;simp only[Yp,h1];rw[List.getElem?_take]at h;split at h
 ·rw[List.getElem?_drop]at h
  simpa using h
 ·cases h
def mW.is {w:World}{sz:Nat}{es:af}{b off cap i j:Nat}{S:List Nat}{v1 v2 v3:List Value}(F:mW w sz es b off cap i j S v1 v2 v3){t:Nat}(h:t<es.length*sz):(w.cell? ⟨b,off+t,none⟩).isSome=true/\w.frozen? ⟨b,off+t,none⟩=false:=by
 obtain⟨cur,ty,h1,h2,h3⟩:=F.row;have:es.length*sz<=cap*sz:=ZJ _ F.hcap
 constructor
 ·simp only[Yp,h1];simp;omega
 ·simp only[Y3,h1];simp
def mW.src {w:World}{sz:Nat}{es:af}{b off cap i j:Nat}{S:List Nat}{v1 v2 v3:List Value}(F:mW w sz es b off cap i j S v1 v2 v3):
 ∃ A:Addr,(if cap=j then some (⟨b,off,none⟩:Addr)else some ⟨b,off+j*sz,none⟩)=some A/\(∀ t u,v3[t]?=some u->w.drew.cell? (A.add t)=some u):=by
 have hl:=F.l3;have h1:=F.l1;have h2:=F.l2;have hc:=F.hcap;have hj:=F.hj;have hij:=F.hij;by_cases h:cap=j
 ·refine⟨⟨b,off,none⟩,by simp[h],fun t u hu=>?_⟩;have:v3.length=0:=by rw[hl,show es.length-j=0 from by omega,Nat.zero_mul]
  rw[List.length_eq_zero_iff.1 this]at hu;simp at hu
 ·refine⟨⟨b,off+j*sz,none⟩,by simp[h],fun t u hu=>?_⟩;have e:(⟨b,off+j*sz,none⟩:Addr).add t=⟨b,off+(j*sz+t),none⟩:=by unfold Addr.add;simp[Yx]
  rw[e];show w.cell? _=some u;refine F.cell ?_;have e2:i*sz+(j-i)*sz=j*sz:=by rw[<-Zl];congr 1;omega
  rw[ZM Uc,ZM Uc, <-hu]
  congr 1;omega
def t7 {P:Program}(w:World)(t e ty:TypeId)(z:Value)(zc:List Value)(ht:P.underlying t=some (.slice e))(hv:∀ w,(zeroValue e).run P w=.ok z w)(hz:z.cells=zc.toArray)(h1:∀ u∈zc,u.oneCell'=true)(b o n c:Nat)(hn:0<n) 
 (hc:∀ j,j<n*zc.length->(w.cell? ⟨b,o+j,none⟩).isSome=true/\w.frozen? ⟨b,o+j,none⟩=false):
 (XU #[t] ty #[.slice (some ⟨b,o,none⟩) n c]).run P w=.ok (.tuple #[]) (w.setCells b o (Ya z.cells n).toList):=by
 have hlen:(Ya z.cells n).toList.length=n*zc.length:=by rw[hz];simp[Ya]
 have h1':∀ u∈(Ya z.cells n).toList,u.oneCell'=true:=by
  intro u hu;rw[hz]at hu;simp only[Ya,Array.toList_map,Array.toList_range,List.mem_map,List.mem_range]at hu;obtain⟨k,hk,rfl⟩:=hu;simp only[Yf]at hk ⊢;have hpos:0<zc.length:=by
   rcases Nat.eq_zero_or_pos zc.length with h|h
   ·rw[h]at hk;simp at hk
   ·exact h
  have hlt:k%zc.length<zc.length:=Nat.mod_lt _ hpos;rw[getElem!_pos _ _ (by simpa using hlt)];exact h1 _ (by simp)
 have hst:=run_storeCells_cells (P:=P) b o (Ya z.cells n).toList 0 w (by rw[hlen];simpa using fun j hj=>(hc j hj).1) (by rw[hlen];simpa using fun j hj=>(hc j hj).2) h1';simp only[Nat.add_zero]at hst;obtain⟨m,rfl⟩:∃ m,n=m+1:=⟨n-1,Uc⟩;simp[XU,run_underlying ht,hv,hst]
def mW.of {w:World}{sz:Nat}{es:af}{b off cap i j:Nat}{S:List Nat}(h:bO w (.s sz es) (.slice (some ⟨b,off,none⟩) es.length cap) S)(hc0:cap≠0)(hU:∀ c∈S,ed w c)(hij:i<=j)(hj:j<=es.length):
 ∃ v1 v2 v3 S1 S2 S3,mW w sz es b off cap i j S v1 v2 v3/\S=b::(S1++(S2++S3))/\bE w sz (es.take i) v1 S1/\bE w sz (es.drop j) v3 S3:=by
 simp only[bO]at h;obtain⟨base,len,cap',e,h2,h3,h4,h5⟩:=h;cases e;rcases h5 with⟨h5,_⟩|⟨b',off',cur,ty,fz,S',e1,e2,e3,e4,rfl⟩;exact absurd h5 hc0
 cases e1;have hf:=(hU b (by simp)).cells e2;subst hf;have hsp:es=es.take i++((es.drop i).take (j-i)++es.drop j):=by
  rw[show es.drop j=(es.drop i).drop (j-i)from by rw[List.drop_drop];congr 1;omega,ZK,ZK]
 have e4':=e4;rw[hsp]at e4';obtain⟨v1,vr,S1,Sr,q1,rfl,r1,r2⟩:=bE.split e4';obtain⟨v2,v3,S2,S3,q2,rfl,r3,r4⟩:=bE.split r2;subst q2;have l1:=r1.length;have l2:=r3.length;have l3:=r4.length;rw[Zi,Y2 Uc]at l1;rw[Zi,Zo,Y2 Uc]at l2;rw[Zo]at l3;refine⟨v1,v2,v3,S1,S2,S3,⟨h3,h4,hij,hj,l1,l2,l3,⟨cur,ty,e2,e3,?_⟩,bE.ones r4⟩,rfl,r1,r4⟩;rw[<-hsp]at q1;exact q1
def mW.done {w:World}{sz:Nat}{es:af}{b off cap i j:Nat}{S S1 S2 S3:List Nat}{v1 v2 v3 zs:List Value}(F:mW w sz es b off cap i j S v1 v2 v3)(hS:S=b::(S1++(S2++S3)))(hr1:bE w sz (es.take i) v1 S1)(hr3:bE w sz (es.drop j) v3 S3) 
 (hnd:S.Nodup) (hU:∀ c∈S,ed w c) (hz:zs.length=(j-i)*sz) {w0 W:World} (h0:w0.heap=w.heap/\w0.os=w.os/\w0.tape=w.tape/\w0.output=w.output) (hW:W=(w0.setCells b (off+i*sz) v3).setCells b (off+(i+(es.length-j))*sz) zs):
 ∃ Sr,bO W (.s sz (es.take i++es.drop j)) (.slice (some ⟨b,off,none⟩) (i+(es.length-j)) cap) Sr/\Sr.Nodup/\(∀ c∈Sr,ed W c/\c∈S)/\Same (fun c=>c∉S) w W:=by
 obtain⟨cur,ty,g1,g2,g3⟩:=F.row;have hcap:=F.hcap;have hij:=F.hij;have hj:=F.hj;have l1:=F.l1;have l2:=F.l2;have l3:=F.l3;have hle:es.length*sz<=cap*sz:=ZJ _ hcap;have m1:i*sz+(es.length-j)*sz=(i+(es.length-j))*sz:=by rw[Zl]
 have m2:(i+(es.length-j))*sz+(j-i)*sz=es.length*sz:=by rw[<-Zl];congr 1;omega
 obtain⟨cur1,a1,a2⟩:=du v3 (off+i*sz) w0 cur (by rw[h0.1];exact g1) Uc;have z1:cur1.size=cur.size:=by
  have:=congrArg YL a2;simp only[ZF,Zh,Zi,Zo]at this;omega
 obtain⟨cur2,b1,b2⟩:=du zs (off+(i+(es.length-j))*sz) _ cur1 a1 Uc;have z2:cur2.size=cur1.size:=by
  have:=congrArg YL b2;simp only[ZF,Zh,Zi,Zo]at this;omega
 rw[<-hW]at b1;have hne:∀ c,c≠b->W.heap[c]?=w.heap[c]?:=by
  intro c hc;rw[hW,cX hc,cX hc,h0.1]
 have hrow:(cur2.toList.drop off).take ((i+(es.length-j))*sz)=v1++v3:=by
  have p1:v1=(cur.toList.drop off).take (i*sz):=by
   have:=congrArg (List.take (i*sz)) g3;rw[Y5,XV Uc,Yg (l:=v1) Uc,Y2 Uc]at this;exact this.symm
  rw[b2];rw[Vp (by simp;omega),XV (by simp;omega)];rw[YN,Y5,show min ((i+(es.length-j))*sz) (off+(i+(es.length-j))*sz-off)=i*sz+(es.length-j)*sz from by omega];rw[a2,Vp (by simp;omega),Xo,Xo];simp only[YN,Zi,Zo,ZF];rw[Y5,show min (i*sz+(es.length-j)*sz) (off+i*sz-off)=i*sz from by omega, <-p1]
  congr 1
  rw[Yg (l:=v3) Uc];rw[show i*sz+(es.length-j)*sz-min (off+i*sz-off) (cur.size-off)-v3.length=0 from by omega];simp
 subst hS;have hb:b∉S1++(S2++S3):=(Yn.1 hnd).1;have hnd':=(Yn.1 hnd).2;refine⟨b::(S1++S3),?_,?_,?_,?_⟩
 ·simp only[bO];refine⟨_,_,_,rfl,by rw[Zh,Zi,Zo];omega,Uc,F.hm,.inr ⟨b,off,cur2,ty,(0,0),S1++S3,rfl,b1,Uc,?_,rfl⟩⟩;rw[hrow];refine bE.keep sz _ _ _ (bE.append hr1 hr3) (fun c hc=>hne c (fun e=>hb ?_));subst e;rcases Zg.1 hc with h|h<;>simp[h]
 ·rw[Yn];refine⟨fun h=>hb ?_,?_⟩
  ·rcases Zg.1 h with h|h<;>simp[h]
  ·rw[Zu]at hnd' ⊢;obtain⟨d1,d2,d3⟩:=hnd';rw[Zu]at d2;exact⟨d1,d2.2.1,fun c hc d hd=>d3 c hc d (by simp[hd])⟩
 ·intro c hc;have hmem:c∈b::(S1++(S2++S3)):=by
   rcases List.mem_cons.1 hc with h|h
   ·simp[h]
   ·rcases Zg.1 h with h|h<;>simp[h]
  refine⟨?_,hmem⟩;by_cases e:c=b
  ·subst e;exact .inl ⟨cur2,ty,b1⟩
  ·exact(hU c hmem).keep (hne c e)
 ·obtain⟨s1,s2,s3,s4⟩:=dU (b:=b) zs (off+(i+(es.length-j))*sz) (w0.setCells b (off+i*sz) v3);obtain⟨t1,t2,t3,t4⟩:=dU (b:=b) v3 (off+i*sz) w0;rw[<-hW]at s1 s2 s3 s4;refine⟨(s1.trans t1).trans h0.2.1,(s2.trans t2).trans h0.2.2.1,(s3.trans t3).trans h0.2.2.2,by rw[s4,t4,h0.1];exact Zf _,fun c _ hc=>hne c (fun e=>hc (by simp[e]))⟩
def mW.is1 {w:World}{sz:Nat}{es:af}{b off cap i j:Nat}{S:List Nat}{v1 v2 v3:List Value}(F:mW w sz es b off cap i j S v1 v2 v3){t:Nat}(h:t<es.length*sz):
 ((w.drew.setCells b (off+i*sz) v3).cell? ⟨b,off+t,none⟩).isSome=true/\(w.drew.setCells b (off+i*sz) v3).frozen? ⟨b,off+t,none⟩=false:=by
 obtain⟨cur,ty,h1,h2,h3⟩:=F.row;have hle:es.length*sz<=cap*sz:=ZJ _ F.hcap;have m1:i*sz+(es.length-j)*sz<=es.length*sz:=by rw[<-Zl];exact ZJ _ (by have:=F.hij;have:=F.hj;omega)
 have l3:=F.l3;obtain⟨cur1,a1,a2⟩:=du v3 (off+i*sz) w.drew cur h1 Uc;have z1:=congrArg YL a2;simp only[ZF,Zh,Zi,Zo]at z1
 constructor
 ·simp only[Yp,a1];simp;omega
 ·simp only[Y3,a1];simp
def sM (zc:Array Value)(n:Nat):(Ya zc n).toList.length=n*zc.size:=by simp[Ya]
def mW.clear {P:Program}{w:World}{sz:Nat}{es:af}{b off cap i j:Nat}{S:List Nat}{v1 v2 v3:List Value}(F:mW w sz es b off cap i j S v1 v2 v3)(hlt:i<j){t e:TypeId}{z:Value}(zc:List Value)(ht:P.underlying t=some (.slice e))(hv:∀ w,(zeroValue e).run P w=.ok z w)(hz:z.cells=zc.toArray)(h1:∀ u∈zc,u.oneCell'=true)(hl:zc.length=sz):
 ∃ zs,zs.length=(j-i)*sz/\∀ ty,(XU #[t] ty #[.slice (some ⟨b,off+(i+(es.length-j))*sz,none⟩) (es.length- (i+(es.length-j))) (cap- (i+(es.length-j)))]).run P (w.drew.setCells b (off+i*sz) v3)=.ok (.tuple #[]) ((w.drew.setCells b (off+i*sz) v3).setCells b (off+(i+(es.length-j))*sz) zs):=by
 have hij:=F.hij;have hj:=F.hj;refine⟨(Ya z.cells (es.length- (i+(es.length-j)))).toList,?_,fun ty=>?_⟩
 ·rw[sM,hz,Yf,hl];congr 1;omega
 ·refine t7 _ t e ty z zc ht hv hz h1 b _ _ _ Uc (fun k hk=>?_);rw[Yx];refine F.is1 ?_;rw[hl]at hk;have:(i+(es.length-j))*sz+(es.length- (i+(es.length-j)))*sz=es.length*sz:=by rw[<-Zl];congr 1;omega
  omega
def Fi {fr:Nat->Prop}(w:World):Same fr w w:=⟨rfl,rfl,rfl,Zf _,fun _ _ _=>rfl⟩
def delL (es:af)(i j:Int):af:=es.take i.toNat++es.drop j.toNat
def QK (P:Program)(f:FuncId):Prop:=(∀ w:World,Calls P f #[.slice none 0 0,.int Za 0,.int Za 0] w fun e w'=>e=.returned (.slice none 0 0)/\w'=w)/\∀ (b off:Nat) (sp:Option Nat) (len cap i:Nat),len<=cap->cap<=9223372036854775807->i<=len->∀ w:World,Calls P f #[.slice (some ⟨b,off,sp⟩) len cap,.int Za i,.int Za i] w fun e w'=>e=.returned (.slice (some ⟨b,off,sp⟩) len cap)/\w'=w
def QL (P:Program)(f:FuncId)(sz:Nat):Prop:=∀ (w:World) (es:af) (b off cap i j:Nat) (S:List Nat) (v1 v2 v3:List Value),mW w sz es b off cap i j S v1 v2 v3->i<j->Calls P f #[.slice (some ⟨b,off,none⟩) es.length cap,.int Za i,.int Za j] w fun e w'=>e=.returned (.slice (some ⟨b,off,none⟩) (i+(es.length-j)) cap)/\
 ∃ zs,zs.length=(j-i)*sz/\w'=(w.drew.setCells b (off+i*sz) v3).setCells b (off+(i+(es.length-j))*sz) zs
def mW.fx {P:Program}{w:World}{sz:Nat}{es:af}{b off cap i j:Nat}{S:List Nat}{v1 v2 v3:List Value}(F:mW w sz es b off cap i j S v1 v2 v3)(hlt:i<j){t e:TypeId}{z:Value}(zc:List Value)(ht:P.underlying t=some (.slice e))(hv:∀ w,(zeroValue e).run P w=.ok z w)(hz:z.cells=zc.toArray)(h1:∀ u∈zc,u.oneCell'=true)(hl:zc.length=sz):
 ∃ (A:Addr) (W1:World) (zs:List Value),(if cap=j then some (⟨b,off,none⟩:Addr)else some ⟨b,off+j*sz,none⟩)=some A/\Go.RowKit.Hid (∀ t u,v3[t]?=some u->w.drew.cell? (A.add t)=some u)/\es.length<=cap/\cap<=9223372036854775807/\i<=j/\j<=es.length/\Go.RowKit.Hid (v3.length=(es.length-j)*sz)/\Go.RowKit.Hid (∀ u∈v3,u.oneCell'=true)/\
  Go.RowKit.Hid (∀ t,t<v3.length->(w.drew.cell? ⟨b,off+i*sz+t,none⟩).isSome=true/\w.drew.frozen? ⟨b,off+i*sz+t,none⟩=false)/\
  (∀ ty,(XU #[t] ty #[.slice (some ⟨b,off+(i+(es.length-j))*sz,none⟩) (es.length- (i+(es.length-j))) (cap- (i+(es.length-j)))]).run P W1=.ok (.tuple #[]) (W1.setCells b (off+(i+(es.length-j))*sz) zs))/\
  Go.RowKit.Hid (∃ zs',zs'.length=(j-i)*sz/\(w.drew.setCells b (off+i*sz) v3).setCells b (off+(i+(es.length-j))*sz) zs=(w.drew.setCells b (off+i*sz) v3).setCells b (off+(i+(es.length-j))*sz) zs')/\Go.RowKit.Hid (W1=w.drew.setCells b (off+i*sz) v3)/\i<=cap/\j<=cap:=by
 obtain⟨A,hA,hsrc⟩:=F.src;obtain⟨zs,hlz,hcl⟩:=F.clear hlt zc ht hv hz h1 hl;have c1:=F.hcap;have c2:=F.hij;have c3:=F.hj;refine⟨A,_,zs,hA,hsrc,c1,F.hm,c2,c3,F.l3,F.one,fun t h=>?_,hcl,⟨zs,hlz,rfl⟩,rfl,Uc,Uc⟩;rw[F.l3]at h;rw[Yx];have hm:i*sz+(es.length-j)*sz<=es.length*sz:=by rw[<-Zl];exact ZJ _ Uc
 exact F.is Uc
def Ht {P:Program}{f:FuncId}{sz:Nat} 
 (h1:QK P f) (h2:QL P f sz)
 {es:af} {i j:Int} (hp:0<=i/\i<=j/\j<=es.length):
 BF P f [.one (.s sz es),.j i,.j j] [.one (.s sz (delL es i j))]:=by
 unfold delL;obtain⟨p1,p2,p3⟩:=hp;obtain⟨i,rfl⟩:=Yh p1;obtain⟨j,rfl⟩:=Yh (Int.le_trans p1 p2);intro w vs S hr hnd hU;simp only[bW,hH]at hr;obtain⟨v,_,S1,S2,rfl,hs,⟨v1,_,S3,S4,rfl,⟨rfl,_,rfl⟩,⟨v2,_,S5,S6,rfl,⟨rfl,_,rfl⟩,⟨rfl,rfl⟩,rfl⟩,rfl⟩,rfl⟩:=hr;simp only[List.append_nil]at hnd hU ⊢;have hs0:=hs;simp only[bO]at hs;obtain⟨base,len,cap,rfl,rfl,h3,h4,h5⟩:=hs;simp only[XW,Int.ofNat_le]at p2 p3;have hm:cap<=9223372036854775807:=h4;by_cases e:i=j
 ·subst e;have hk:Calls P f #[.slice base es.length cap,.int Za i,.int Za i] w fun e w'=>e=.returned (.slice base es.length cap)/\w'=w:=by
   rcases base with _|⟨b,off,sp⟩
   ·obtain rfl:cap=0:=by rcases h5 with⟨h5,_⟩|⟨b,off,cur,ty,fz,S',q,h6⟩<;>simp_all
    rw[show es.length=0 from by omega];obtain rfl:i=0:=by omega
    exact h1.1 w
   ·exact h1.2 b off sp es.length cap i h3 hm p3 w
  refine hk.mono ?_;rintro _ _ ⟨rfl,rfl⟩;refine⟨_,S1,rfl,?_,hnd,fun b hb=>⟨hU b hb,.inr hb⟩,Fi _⟩;simp only[XW,ZI,gd,hH,ZK];exact hs0
 ·have hlt:i<j:=by omega
  have hc0:cap≠0:=by omega
  rcases h5 with⟨h5,_⟩|⟨b,off,cur,ty,fz,S',rfl,h6⟩;exact absurd h5 hc0
  obtain⟨v1,v2,v3,T1,T2,T3,F,hS,r1,r3⟩:=mW.of hs0 hc0 hU Uc p3;refine(h2 w es b off cap i j S1 v1 v2 v3 F hlt).mono ?_;rintro _ W ⟨rfl,zs,hz,hW⟩;obtain⟨Sr,k1,k2,k3,k4⟩:=F.done (w0:=w.drew) hS r1 r3 hnd hU hz ⟨rfl,rfl,rfl,rfl⟩ hW;refine⟨_,Sr,rfl,?_,k2,fun c hc=>⟨(k3 c hc).1,.inr (k3 c hc).2⟩,k4⟩;simp only[XW,ZI,gd,hH];exact k1
end Go.V