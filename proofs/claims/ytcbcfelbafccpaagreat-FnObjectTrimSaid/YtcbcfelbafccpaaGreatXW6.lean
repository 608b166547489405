/-
  slices.Insert of one record at rows of scalar records: what the memory holds behind it.
-/
import Derived.Test.YtcbcfelbafccpaaGreatXW1
import Derived.Test.YtcbcfelbafccpaaGreatXVD
import Derived.Lib.Overlaps
import Derived.Lib.AppendZerosOnto
set_option linter.all false
open Go
open Builtin renaming copy_->Xb,lenOf->Wh,firstCells->WT,append_->Yy,zeroCells->Ya
open Extern.SlicesOverlaps renaming overlaps->XC
open IntKind renaming wrap_i64->Vr,i64->Za
open List renaming length_take->Zi,getElem?_append_left->ZN,getElem?_take->Zw,getElem?_append_right->ZM,getElem?_drop->Zv,length_append->Zh,length_drop->Zo,append_nil->Z4,nil_append->ZS,length_cons->Zr,length_nil->Zs,eq_nil_of_length_eq_zero->Yz,drop_zero->YM,take_append_of_le_length->XV,take_of_length_le->Yg,size_toArray->Yf,mem_singleton->Z3,take_append_drop->ZK,append_assoc->Zn,length->YL
open Nat renaming add_zero->Yi,zero_add->ZP,le_trans->ZA,le_refl->Zf,one_mul->YF,add_mul->Zl,mul_le_mul_right->ZJ
open Region renaming wanted->YI
open Result renaming andThen->ZZ
open World renaming cell?->Yp,frozen?->Y3,cell?_setCells_out->Vs,shape?->Vt
open _root_.Array renaming toList_append->XL,size_append->Xs,length_toList->ZF
namespace Go.V
open Go.Lib
def yO (l:List Value)(o:Nat)(vs:List Value):List Value:=l.take o++(vs++l.drop (o+vs.length))
def qL {l:List Value}{o:Nat}{vs:List Value}(h:o<=l.length)(k:Nat):(yO l o vs)[k]?=if k<o then l[k]? else if k<o+vs.length then vs[k-o]? else l[k]?:=by
 unfold yO;have hl:(l.take o).length=o:=by rw[Zi];omega
 split
 ·rw[ZN Uc,Zw,VJ Ud]
 ·rw[ZM Uc,hl];split
  ·rw[ZN Uc]
  ·rw[ZM Uc,Zv];congr 1;omega
def AR {l:List Value}{o:Nat}{vs:List Value}(h:o+vs.length<=l.length):(yO l o vs).length=l.length:=by
 unfold yO;rw[Zh,Zh,Zi,Zo];omega
def yP {l v1 x v3:List Value}{off:Nat}(h:off+(v1.length+(x.length+v3.length))<=l.length)(h1:∀ j,j<v1.length->l[off+j]?=v1[j]?){r:List Value} 
 (hr:r=yO (yO l (off+(v1.length+x.length)) v3) (off+v1.length) x\/r=yO (yO l (off+v1.length) x) (off+(v1.length+x.length)) v3):
 (r.drop off).take (v1.length+(x.length+v3.length))=v1++(x++v3):=by
 have key:∀ k,k<v1.length+(x.length+v3.length)->r[off+k]?=if k<v1.length then v1[k]? else if k<v1.length+x.length then x[k-v1.length]? else v3[k- (v1.length+x.length)]?:=by
  intro k hk;rcases hr with rfl|rfl
  ·rw[qL (by rw[AR Uc];omega),qL Uc];by_cases c1:k<v1.length
   ·rw[VJ Uc,VJ Uc,VJ c1,h1 k c1]
   ·rw[VK Uc,VK c1];by_cases c2:k<v1.length+x.length
    ·rw[VJ Uc,VJ c2];congr 1;omega
    ·rw[VK Uc,VK Uc,VJ Uc,VK c2];congr 1;omega
  ·rw[qL (by rw[AR Uc];omega),qL Uc];by_cases c1:k<v1.length
   ·rw[VJ Uc,VJ Uc,VJ c1,h1 k c1]
   ·rw[VK c1];by_cases c2:k<v1.length+x.length
    ·rw[VJ Uc,VK Uc,VJ Uc,VJ c2];congr 1;omega
    ·rw[VK Uc,VJ Uc,VK c2];congr 1;omega
 apply List.ext_getElem?;intro k;rw[Zw,Zv];by_cases hk:k<v1.length+(x.length+v3.length)
 ·rw[VJ hk,key k hk];by_cases c1:k<v1.length
  ·rw[VJ c1,ZN c1]
  ·rw[VK c1,ZM Uc];by_cases c2:k<v1.length+x.length
   ·rw[VJ c2,ZN Uc]
   ·rw[VK c2,ZM Uc];congr 1;omega
 ·rw[VK hk,List.getElem?_eq_none];simp only[Zh];omega
def my {P:Program}(w:World){t e:TypeId}{ti:TI}{bytes:Nat}(hel:wQ P t=some (e,ti,bytes))(ty:TypeId)(b o dLen dCap:Nat)(a:Addr)(sLen sCap k:Nat)(cs:List Value) 
 (hk:min sLen dLen=k) (hn:cs.length=k*ti.zero.length) (hsrc:∀ j v,cs[j]?=some v->w.cell? (a.add j)=some v)
 (hc:∀ j,j<cs.length->(w.cell? ⟨b,o+j,none⟩).isSome=true/\w.frozen? ⟨b,o+j,none⟩=false) (h1:∀ v∈cs,v.oneCell'=true):
 (Xb #[t,t] ty #[.slice (some ⟨b,o,none⟩) dLen dCap,.slice (some a) sLen sCap]).run P w=.ok (goInt k) (w.setCells b o cs):=by
 obtain⟨e1,e2,inf,e3,e4,e5,e6⟩:=iU hel;have hl:=run_loadCells_list (P:=P) w a cs hsrc;rw[hn, <-e6]at hl;have hst:=run_storeCells_cells (P:=P) b o cs 0 w (by simpa using fun j hj=>(hc j hj).1) (by simpa using fun j hj=>(hc j hj).2) h1;simp only[Yi]at hst;have hk':Nat.min sLen dLen=k:=hk;simp[Xb,run_underlying e1,Wh,WT,sizeOf,typeInfo,e3,hk',hl,hst]
def dG {P:Program}{ops:Array Oper}{rest:List Oper}{o:Oper}{a:Act}{w:World}{Q:Exit->Act->World->Prop}(hg:o.guard=none){v':Value}{w':World}(hr:(execOp a.eval o).run P w=.ok (.value v') w') 
 (h:wpList P ops Q rest (a.put o.dst v') w'):wpList P ops Q (o::rest) a w:=wpList_plain hg fun _ hK=>cU hr (hK _ _ h)
def lL {P:Program}{ops:Array Oper}{o:Oper}{a:Act}{w:World}{K:Act->World->Prop}{Q:Exit->Act->World->Prop}{E:Prop}(hg:o.guard=none){v':Value}{w':World}(hr:(execOp a.eval o).run P w=.ok (.value v') w') 
 (hK:K (a.put o.dst v') w'):if YI o (yielded ops a.tmps)=true then Oper.wp P o a w K Q else E:=by
 rw[VJ (by simp[YI,hg])];exact cU hr hK
def d7 {P:Program}{o:Oper}{a:Act}{w:World}{t t':TypeId}{d s:Operand}(ho:o.op=.call {callee:=.builtin .copy,args:= #[d,s],argTypes:= #[t,t']}){v u v':Value}{w':World}(hd:a.eval d=v)(hs:a.eval s=u) 
 (hr:∀ ty,(Xb #[t,t'] ty #[v,u]).run P w=.ok v' w'):(execOp a.eval o).run P w=.ok (.value v') w':=by
 unfold execOp;simp[ho,resolve,invoke,builtin,hd,hs,hr,ZZ]
def lQ {P:Program}{o:Oper}{a:Act}{w:World}{t t':TypeId}{d s:Operand}(ho:o.op=.call {callee:=.builtin .append,args:= #[d,s],argTypes:= #[t,t']}){v u v':Value}{w':World}(hd:a.eval d=v)(hs:a.eval s=u) 
 (hr:∀ ty,(Yy #[t,t'] ty #[v,u]).run P w=.ok v' w'):(execOp a.eval o).run P w=.ok (.value v') w':=by
 unfold execOp;simp[ho,resolve,invoke,builtin,hd,hs,hr,ZZ]
def FJ (P:Program)(f:FuncId)(t:TypeId):Prop:=∀ (w W:World) (base:Option Addr) (n c vb vo vc:Nat) (v:Value),n<=c->c<=9223372036854775807->(base=none->c=0)->
 (∀ ty,(Yy #[t,t] ty #[.slice base n c,.slice (some ⟨vb,vo,none⟩) 1 vc]).run P w=.ok v W)->
 Calls P f #[.slice base n c,.int Za n,.slice (some ⟨vb,vo,none⟩) 1 vc] w fun e w'=>e=.returned v/\w'=W
def FL (P:Program)(f:FuncId)(t:TypeId)(sz:Nat):Prop:=∀ (w W1 W2:World) (b off n c i vb vo vc:Nat),i<n->n+1<=c->c<=9223372036854775807->
 (∀ (tR el:TypeId),P.underlying t=some (.slice el)->(∀ w,(Go.sizeOf el).run P w=.ok sz w)->∀ lb cb,(XC #[t,t] #[tR] #[.slice (some ⟨vb,vo,none⟩) 1 vc,.slice (some ⟨b,off+(i+1)*sz,none⟩) lb cb]).run P w=.ok (.bool false) w)->
 (∀ ty dc sc,(Xb #[t,t] ty #[.slice (some ⟨b,off+(i+1)*sz,none⟩) (n+1- (i+1)) dc,.slice (some ⟨b,off+i*sz,none⟩) (n+1-i) sc]).run P w.drew=.ok (goInt (n-i:Nat)) W1)->
 (∀ ty dc,(Xb #[t,t] ty #[.slice (some ⟨b,off+i*sz,none⟩) (n+1-i) dc,.slice (some ⟨vb,vo,none⟩) 1 vc]).run P W1=.ok (goInt 1) W2)->
 Calls P f #[.slice (some ⟨b,off,none⟩) n c,.int Za i,.slice (some ⟨vb,vo,none⟩) 1 vc] w fun e w'=>e=.returned (.slice (some ⟨b,off,none⟩) (n+1) c)/\w'=W2
def FK (P:Program)(f:FuncId)(t tn:TypeId)(sz:Nat):Prop:=∀ (w W1 W2 W3:World) (N b off n c i vb vo vc G:Nat),i<n->n<=c->c<n+1->n+1<=G->G<=9223372036854775807->
 (∀ ty,(Yy #[t,tn] ty #[.slice (some ⟨b,off,none⟩) i c,.int Za ((n:Int)+1-i)]).run P w=.ok (.slice (some ⟨N,0,none⟩) (n+1) G) W1)->
 (∀ ty dc,(Xb #[t,t] ty #[.slice (some ⟨N,i*sz,none⟩) (n+1-i) dc,.slice (some ⟨vb,vo,none⟩) 1 vc]).run P W1=.ok (goInt 1) W2)->
 (∀ ty dc sc,(Xb #[t,t] ty #[.slice (some ⟨N,(i+1)*sz,none⟩) (n+1- (i+1)) dc,.slice (some ⟨b,off+i*sz,none⟩) (n-i) sc]).run P W2.drew=.ok (goInt (n-i:Nat)) W3)->
 Calls P f #[.slice (some ⟨b,off,none⟩) n c,.int Za i,.slice (some ⟨vb,vo,none⟩) 1 vc] w fun e w'=>e=.returned (.slice (some ⟨N,0,none⟩) (n+1) G)/\w'=W3
def Cg {i n c:Nat}(hi:i<n)(hroom:n+1<=c)(hm:c<=9223372036854775807):IntKind.i64.wrap ((i:Int)+1)=(i:Int)+1/\((i:Int)+1).toNat=i+1/\¬ (c=i+1)/\¬ (c=i)/\(0:Int)<=(i:Int)+1/\i<=n/\(i:Int)<=(n:Int)+1:=⟨by rw[Vr];omega,Uc,Uc,Uc,Uc,Uc,Uc⟩
def Ch {i n c g:Nat}(hi:i<n)(hnc:n<=c)(hcn:c<n+1)(hg:n+1<=g)(hm:g<=9223372036854775807):IntKind.i64.wrap ((i:Int)+1)=(i:Int)+1/\((i:Int)+1).toNat=i+1/\¬ (g=i+1)/\¬ (g=i)/\¬ (c=i)/\(c:Int)<(n:Int)+1/\i<=n/\(0:Int)<=(i:Int)+1:=⟨by rw[Vr];omega,Uc,Uc,Uc,Uc,Uc,Uc,Uc⟩
def JW (es:af)(i:Int)(e:ax):af:=es.take i.toNat++e::es.drop i.toNat
def vY {W:World}{b off cap sz m:Nat}{cur:Array Value}{ty:TypeId}{es:af}{vs:List Value}(h:W.heap[b]?=some (.cells cur ty (0,0)))(hr:(cur.toList.drop off).take (m*sz)=vs)(he:bE W sz es vs [])(hm:m=es.length)(h1:m<=cap)(h2:cap<=maxLen)(h3:off+cap*sz<=cur.size):
 bO W (.s sz es) (.slice (some ⟨b,off,none⟩) m cap) [b]:=by
 simp only[bO];exact⟨_,_,_,rfl,hm,h1,h2,.inr ⟨b,off,cur,ty,(0,0),[],rfl,h,h3,by rw[hr];exact he,rfl⟩⟩
def H4 {w w0:World}{b o1 o2:Nat}{x1 x2:List Value}{S:List Nat}(h0:Same (fun c=>c∉S) w w0)(hb:b∈S\/w.heap.size<=b){W:World}(hW:W=(w0.setCells b o1 x1).setCells b o2 x2):Same (fun c=>c∉S) w W:=by
 obtain⟨s1,s2,s3,s4⟩:=dU (b:=b) x2 o2 (w0.setCells b o1 x1);obtain⟨t1,t2,t3,t4⟩:=dU (b:=b) x1 o1 w0;subst hW;refine⟨(s1.trans t1).trans h0.os,(s2.trans t2).trans h0.tape,(s3.trans t3).trans h0.output,by rw[s4,t4];exact h0.size,fun c hc hn=>?_⟩;have hne:c≠b:=by
  rintro rfl;rcases hb with hb|hb;exact hn hb;omega
 rw[cX hne,cX hne];exact h0.block c hc hn
def v6 {fr:Nat->Prop}(w:World)(ob:Obj):Same fr w (w.drew.alloc ob):=⟨rfl,rfl,rfl,by simp,fun _ hb _=>heap_alloc_old w.drew ob hb⟩
def blk {w:World}{b:Nat}{cur:Array Value}{ty:TypeId}(h:w.heap[b]?=some (.cells cur ty (0,0))){k:Nat}(hk:k<cur.size):(w.cell? ⟨b,k,none⟩).isSome=true/\w.frozen? ⟨b,k,none⟩=false:=by
 constructor
 ·simp only[Yp,h];simp;omega
 ·simp only[Y3,h];simp
def Hu {P:Program}{f:FuncId}{t tn e:TypeId}{ti:TI}{sz bytes:Nat}(hel:wQ P t=some (e,ti,bytes))(hsz:ti.zero.length=sz)(hby:bytes<=64)(htn:P.underlying tn=some (.int Za)) 
 (hA:FJ P f t) (hS:FL P f t sz) (hG:FK P f t tn sz) {es:af} {x:ax} {i:Int} (hp:0<=i/\i<=es.length/\es.length<=1073741824) (hs:bN es) (hx:bN [x]):
 BF P f [.one (.s sz es),.j i,.one (.s sz [x])] [.one (.s sz (JW es i x))]:=by
 obtain⟨p1,p2,p3⟩:=hp;obtain⟨i,rfl⟩:=Int.eq_ofNat_of_zero_le p1;intro w vs S hr hnd hU;simp only[bW,hH]at hr;obtain⟨v,_,S1,_,rfl,hs1,⟨v1,_,_,_,rfl,⟨rfl,_,rfl⟩,⟨v2,_,S2,_,rfl,hs2,⟨rfl,rfl⟩,rfl⟩,rfl⟩,rfl⟩:=hr;simp only[Z4,ZS]at hnd hU ⊢;subst hsz;obtain⟨e1,e2,inf,e3,e4,e5,e6⟩:=iU hel;obtain⟨inf',z,f1,f2,f3,f4,f5⟩:=eB e2;rw[e3]at f1;cases f1;subst e4;have hz0:z.cells.size=inf.size:=by
  have:=(eG f4).2.1
  simpa[e6]using this
 rw[<-e6]at hs1 hs2 hS hG ⊢;simp only[bO]at hs1 hs2;obtain⟨base,n,cap,rfl,hn,h3,h4,h5⟩:=hs1;obtain⟨base2,m,vc,rfl,hm,g3,g4,g5⟩:=hs2;simp only[Zr,Zs,ZP]at hm;subst hm;have h4':cap<=9223372036854775807:=h4;rcases g5 with⟨g5,_⟩|⟨vb,vo,cur2,ty2,fz2,S2',rfl,g6,g7,g8,rfl⟩;omega
 obtain rfl:=(hU vb (by simp)).cells g6;obtain rfl:=gZ hx g8;obtain⟨nv,hnv⟩:∃ nv,nv=(cur2.toList.drop vo).take (1*inf.size):=⟨_,rfl⟩;rw[<-hnv]at g8;have nl:nv.length=inf.size:=by have:=g8.length;simpa using this
 have hnc:∀ j u,nv[j]?=some u->w.cell? ⟨vb,vo+j,none⟩=some u:=fun j u hj=>dp g6 (by rw[<-hnv];exact hj)
 have hnc':∀ j u,nv[j]?=some u->w.cell? ((⟨vb,vo,none⟩:Addr).add j)=some u:=fun j u hj=>by rw[add_lit];exact hnc j u hj
 simp only[Int.ofNat_eq_natCast,Int.ofNat_le]at p2;have hins:JW es (i:Int) x=es.take i++([x]++es.drop i):=by unfold JW;rw[Int.toNat_natCast];rfl
 rw[hins];have hlen:n+1=(es.take i++([x]++es.drop i)).length:=by
  simp only[Zh,Zi,Zo,Zr,Zs];omega
 have hbig:(n+1)*inf.bytes<=140737488355328:=ZA (Nat.mul_le_mul (show n+1<=1073741825 by omega) hby) (by decide);have unew:∀ {W:World} {b:Nat} {c:Array Value} {y:TypeId},W.heap[b]?=some (.cells c y (0,0))->ed W b:=fun h=>.inl ⟨_,_,h⟩
 rcases h5 with⟨h5,rfl⟩|⟨b,off,cur,ty,fz,S1',rfl,h6,h7,h8,rfl⟩
 ·subst h5;obtain rfl:n=0:=by omega
  obtain rfl:es=[]:=Yz hn.symm;obtain rfl:i=0:=by simpa using p2
  have run:=fun ty=>mV (P:=P) base w t ty e inf z e1 e3 f2 ⟨vb,vo,none⟩ 1 vc nv (by rw[nl];simp) hnc' Uc Uc Uc
  refine(hA w _ base 0 0 vb vo vc _ (Zf _) h4' (fun _=>rfl) run).mono ?_;rintro _ W ⟨rfl,rfl⟩;have hge:=grownCap_ge w 1 0 e;have hgm:=grownCap_le_maxLen w 1 0 e (by unfold maxLen;omega);refine⟨_,[w.heap.size],rfl,?_,by simp,fun c hc=>?_,v6 w _⟩
  ·simp only[gd,hH];refine vY (heap_alloc_new w.drew _) (vs:=nv) ?_ (bE.keep _ _ _ _ g8 (fun _ h=>by cases h)) rfl hge hgm ?_
   ·simp only[YM,XL,YF];rw[XV Uc];exact Yg Uc
   ·simp only[Xs,Yf,nl,size_zeroCells,hz0,ZP];rw[show inf.size+(grownCap w 1 0 e-1)*inf.size=(1+(grownCap w 1 0 e-1))*inf.size by rw[Zl,YF]];exact ZJ _ Uc
  ·simp only[Z3]at hc;subst hc;exact⟨unew (heap_alloc_new w.drew _),.inl (Zf _)⟩
 ·obtain rfl:=(hU b (by simp)).cells h6;obtain rfl:=gZ hs h8;have hvb:vb≠b:=by rintro rfl;simp at hnd
  have hsp:es=es.take i++es.drop i:=(ZK _ _).symm;have h8':=h8;rw[hsp]at h8';obtain⟨v1,v3,T1,T3,q1,q2,r1,r3⟩:=bE.split h8';obtain⟨rfl,rfl⟩:T1=[]/\T3=[]:=by
   have:=q2.symm;exact List.append_eq_nil_iff.1 this
  have l1:v1.length=i*inf.size:=by have:=r1.length;rw[Zi,Nat.min_eq_left Uc]at this;exact this
  have l3:v3.length=(n-i)*inf.size:=by have:=r3.length;rw[Zo, <-hn]at this;exact this
  have m1:i*inf.size+(n-i)*inf.size=n*inf.size:=by rw[<-Zl];congr 1;omega
  have m2:(n+1)*inf.size=n*inf.size+inf.size:=by rw[Zl,YF]
  have m3:(i+1)*inf.size=i*inf.size+inf.size:=by rw[Zl,YF]
  have m4:n*inf.size<=cap*inf.size:=ZJ _ h3;have tot:(n+1)*inf.size=v1.length+(nv.length+v3.length):=by omega
  have hv1:∀ j,j<v1.length->cur.toList[off+j]?=v1[j]?:=fun j hj=>by
   have:=congrArg (fun l:List Value=>l[j]?) q1;simp only[Zw,Zv]at this;rw[VJ Uc,ZN hj]at this;exact this
  have hv3:∀ j u,v3[j]?=some u->w.cell? ((⟨b,off+i*inf.size,none⟩:Addr).add j)=some u:=fun j u hj=>by
   rw[add_lit,Nat.add_assoc];refine dp h6 (n:=n*inf.size) ?_;rw[q1,ZM Uc, <-hj];congr 1;omega
  have rd:bE w inf.size (es.take i++([x]++es.drop i)) (v1++(nv++v3)) []:=by
   have:=r1.append (g8.append r3);simpa using this
  have h1v:∀ u∈v3,u.oneCell'=true:=bE.ones r3;have h1n:∀ u∈nv,u.oneCell'=true:=bE.ones g8;by_cases hi:i=n
  ·subst hi;have v30:v3=[]:=Yz (by rw[l3];simp);subst v30;by_cases hroom:i+1<=cap
   ·have hfit:off+i*inf.size+nv.length<=cur.size:=by
     have:=ZJ inf.size hroom;omega
    have run:=fun ty'=>lJ (P:=P) w t ty' e inf e1 e3 b off i cap cur ty h6 ⟨vb,vo,none⟩ 1 vc nv (by rw[nl];simp) hnc' h1n hroom hfit
    refine(hA w _ _ i cap vb vo vc _ h3 h4' (fun h=>by cases h) run).mono ?_;rintro _ W ⟨rfl,rfl⟩;refine⟨_,[b],rfl,?_,by simp,fun c hc=>?_,⟨rfl,rfl,rfl,by simp,fun c _ hc=>setRow_other w b c _ (fun e=>hc (by simp[e]))⟩⟩
    ·simp only[gd,hH];refine vY (setRow_heap w b cur _ ty _ h6) (vs:=v1++(nv++[])) ?_ (bE.keep _ _ _ _ rd (fun _ h=>by cases h)) hlen hroom h4 ?_
     ·rw[tot];refine yP (l:=cur.toList) (by have:=ZF (xs:=cur);simp only[Zs];omega) hv1 (.inl ?_);simp only[yO,Zs,Yi,ZS,ZK,l1,Zn,nl]
     ·simp only[Yf,Zh,Zi,Zo,ZF];omega
    ·simp only[Z3]at hc;subst hc;exact⟨unew (setRow_heap w c cur _ ty _ h6),.inr (by simp)⟩
   ·have holds:∀ j u,v1[j]?=some u->w.cell? ((⟨b,off,none⟩:Addr).add j)=some u:=fun j u hj=>by
     rw[add_lit];refine dp h6 (n:=i*inf.size) ?_;rw[q1,Z4];exact hj
    have run:=fun ty'=>run_append_grow (P:=P) w t ty' e inf z e1 e3 f2 ⟨b,off,none⟩ i cap v1 l1 holds ⟨vb,vo,none⟩ 1 vc nv (by rw[nl];simp) hnc' Uc Uc (growslice_fits Uc hbig)
    refine(hA w _ _ i cap vb vo vc _ h3 h4' (fun h=>by cases h) run).mono ?_;rintro _ W ⟨rfl,rfl⟩;have hge:=grownCap_ge w (i+1) cap e;have hgm:=grownCap_le_maxLen w (i+1) cap e (by unfold maxLen;omega);refine⟨_,[w.heap.size],rfl,?_,by simp,fun c hc=>?_,v6 w _⟩
    ·simp only[gd,hH];refine vY (heap_alloc_new w.drew _) (vs:=v1++(nv++[])) ?_ (bE.keep _ _ _ _ rd (fun _ h=>by cases h)) hlen hge hgm ?_
     ·simp only[YM,XL,Z4];rw[XV (by simp only[Zh];omega)];exact Yg (by simp only[Zh];omega)
     ·simp only[Xs,Yf,nl,l1,size_zeroCells,hz0,ZP];rw[show i*inf.size+inf.size+(grownCap w (i+1) cap e- (i+1))*inf.size=(i+1+(grownCap w (i+1) cap e- (i+1)))*inf.size by rw[Zl,m2]];exact ZJ _ Uc
    ·simp only[Z3]at hc;subst hc;exact⟨unew (heap_alloc_new w.drew _),.inl (Zf _)⟩
  ·have hlt:i<n:=by omega
   have bw:b<w.heap.size:=(hU b (by simp)).lt;have vw:vb<w.heap.size:=(hU vb (by simp)).lt;by_cases hroom:n+1<=cap
   ·have hfit:off+(n+1)*inf.size<=cur.size:=by
     have:=ZJ inf.size hroom;omega
    have c1:=fun ty' dc sc=>my (P:=P) w.drew hel ty' b (off+(i+1)*inf.size) (n+1- (i+1)) dc ⟨b,off+i*inf.size,none⟩ (n+1-i) sc (n-i) v3 Uc (by rw[<-e6];exact l3) hv3 (fun j hj=>blk h6 Uc) h1v
    obtain⟨W1,hW1⟩:∃ W1,W1=w.drew.setCells b (off+(i+1)*inf.size) v3:=⟨_,rfl⟩;rw[<-hW1]at c1;obtain⟨cur1,a1,a2⟩:=du v3 (off+(i+1)*inf.size) w.drew cur h6 Uc;rw[<-hW1]at a1;have z1:cur1.size=cur.size:=by have:=congrArg YL a2;simp only[ZF,Zh,Zi,Zo]at this;omega
    have c2:=fun ty' dc=>my (P:=P) W1 hel ty' b (off+i*inf.size) (n+1-i) dc ⟨vb,vo,none⟩ 1 vc 1 nv Uc (by rw[<-e6,nl,YF]) (fun j u hj=>by
     have:=hnc j u hj;rw[add_lit];rw[hW1,Vs b _ _ _ _ (fun h _=>absurd h hvb)];exact this) (fun j hj=>blk a1 Uc) h1n
    refine(hS w W1 _ b off n cap i vb vo vc hlt hroom h4' (fun tR el hu hse lb cb=>?_) c1 c2).mono ?_;exact run_overlaps_apart w t tR el hu inf.size hse ⟨vb,vo,none⟩ ⟨b,_,none⟩ 1 vc lb cb hvb ty2 ty cur2.size cur.size (by simp[Vt,g6]) (by simp[Vt,h6]) Uc (by simp[Y3,g6]) (by simp[Y3,g6])
    rintro _ W ⟨rfl,rfl⟩;obtain⟨cur3,b1,b2⟩:=du nv (off+i*inf.size) W1 cur1 a1 Uc;have z3:cur3.size=cur1.size:=by have:=congrArg YL b2;simp only[ZF,Zh,Zi,Zo]at this;omega
    refine⟨_,[b],rfl,?_,by simp,fun c hc=>?_,by have q:=H4 (w:=w) (S:=[b,vb]) (b:=b) (w0:=w.drew) (o1:=off+(i+1)*inf.size) (x1:=v3) (o2:=off+i*inf.size) (x2:=nv) ⟨rfl,rfl,rfl,Zf _,fun _ _ _=>rfl⟩ (.inl (by simp)) rfl;rw[<-hW1]at q;exact q⟩
    ·simp only[gd,hH];refine vY b1 (vs:=v1++(nv++v3)) ?_ (bE.keep _ _ _ _ rd (fun _ h=>by cases h)) hlen hroom h4 Uc;rw[tot];refine yP (l:=cur.toList) (by have:=ZF (xs:=cur);omega) hv1 (.inl ?_);rw[b2,a2,show off+(v1.length+nv.length)=off+(i+1)*inf.size by omega,l1];rfl
    ·simp only[Z3]at hc;subst hc;exact⟨unew b1,.inr (by simp)⟩
   ·have hcn:cap=n:=by omega
    have holds:∀ j u,v1[j]?=some u->w.drew.cell? ((⟨b,off,none⟩:Addr).add j)=some u:=fun j u hj=>by
     rw[add_lit];refine dp (w:=w.drew) h6 (n:=n*inf.size) ?_;rw[q1,ZN (by have:=(List.getElem?_eq_some_iff.1 hj).1;exact this)];exact hj
    have hkk:(n:Int)+1-i=((n+1-i:Nat):Int):=by omega
    have hik:i+(n+1-i)=n+1:=by omega
    have run:∀ ty',(Yy #[t,tn] ty' #[.slice (some ⟨b,off,none⟩) i cap,.int Za ((n:Int)+1-i)]).run P w=.ok (.slice (some ⟨w.heap.size,0,none⟩) (n+1) (grownCap w (n+1) cap e)) (w.drew.alloc (.cells (v1.toArray++Ya z.cells (n+1-i)++Ya z.cells (grownCap w (n+1) cap e- (n+1))) e)):=fun ty'=>by
     have q:=Lib.run_append_grow_zeros (P:=P) w t tn ty' e inf z Za Za e1 htn e3 f2 (some ⟨b,off,none⟩) i cap v1 (run_firstCells_some (P:=P) w.drew inf.size i ⟨b,off,none⟩ i cap v1 l1 holds) (n+1-i) Uc e5 Uc Uc (ZA (ZJ _ (show n+1-i<=n+1 by omega)) Uc) (by rw[hik];exact growslice_fits Uc hbig);rw[hik]at q;rw[hkk];exact q
    obtain⟨g,hg⟩:∃ g,g=grownCap w (n+1) cap e:=⟨_,rfl⟩;have hge:n+1<=g:=by rw[hg];exact grownCap_ge w (n+1) cap e
    have hgm:g<=maxLen:=by rw[hg];exact grownCap_le_maxLen w (n+1) cap e (by unfold maxLen;omega)
    rw[<-hg]at run;obtain⟨A,hAr⟩:∃ A:Array Value,A=v1.toArray++Ya z.cells (n+1-i)++Ya z.cells (g- (n+1)):=⟨_,rfl⟩;rw[<-hAr]at run;have hAl:A.toList.take (i*inf.size)=v1:=by
     rw[hAr];simp only[XL,Zn];rw[<-l1];exact List.take_left
    have hAs:A.size=g*inf.size:=by
     rw[hAr];simp only[Xs,Yf,l1,size_zeroCells,hz0];rw[<-Zl, <-Zl];congr 1;omega
    have hg1:(n+1)*inf.size<=g*inf.size:=ZJ _ hge;obtain⟨W1,hW1⟩:∃ W1,W1=w.drew.alloc (.cells A e):=⟨_,rfl⟩;rw[<-hW1]at run;have a1:W1.heap[w.heap.size]?=some (.cells A e (0,0)):=by rw[hW1];exact heap_alloc_new w.drew _
    have hold:∀ c,c<w.heap.size->W1.heap[c]?=w.heap[c]?:=fun c hc=>by rw[hW1];exact heap_alloc_old w.drew _ hc
    have hcell:∀ (c k:Nat),c<w.heap.size->W1.cell? ⟨c,k,none⟩=w.cell? ⟨c,k,none⟩:=fun c k hc=>by simp only[Yp,hold c hc]
    have c2:=fun ty' dc=>my (P:=P) W1 hel ty' w.heap.size (i*inf.size) (n+1-i) dc ⟨vb,vo,none⟩ 1 vc 1 nv Uc (by rw[<-e6,nl,YF]) (fun j u hj=>by rw[add_lit,hcell _ _ vw];exact hnc j u hj) (fun j hj=>blk a1 Uc) h1n
    obtain⟨W2,hW2⟩:∃ W2,W2=W1.setCells w.heap.size (i*inf.size) nv:=⟨_,rfl⟩;rw[<-hW2]at c2;obtain⟨cur1,b1,b2⟩:=du nv (i*inf.size) W1 A a1 Uc;rw[<-hW2]at b1;have z1:cur1.size=A.size:=by have:=congrArg YL b2;simp only[ZF,Zh,Zi,Zo]at this;omega
    have c3:=fun ty' dc sc=>my (P:=P) W2.drew hel ty' w.heap.size ((i+1)*inf.size) (n+1- (i+1)) dc ⟨b,off+i*inf.size,none⟩ (n-i) sc (n-i) v3 Uc (by rw[<-e6];exact l3) (fun j u hj=>by
     have q:=hv3 j u hj;rw[add_lit]at q ⊢;show W2.cell? _=_;rw[hW2,Vs _ _ _ _ _ (fun(h:b=w.heap.size) _=>absurd h Uc),hcell _ _ bw];exact q) (fun j hj=>blk (w:=W2.drew) b1 Uc) h1v
    refine(hG w W1 W2 _ w.heap.size b off n cap i vb vo vc g hlt h3 Uc hge hgm run c2 c3).mono ?_;rintro _ W ⟨rfl,rfl⟩;obtain⟨cur3,d1,d2⟩:=du v3 ((i+1)*inf.size) W2.drew cur1 b1 Uc;have z3:cur3.size=cur1.size:=by have:=congrArg YL d2;simp only[ZF,Zh,Zi,Zo]at this;omega
    refine⟨_,[w.heap.size],rfl,?_,by simp,fun c hc=>?_,?_⟩
    ·simp only[gd,hH];refine vY d1 (vs:=v1++(nv++v3)) ?_ (bE.keep _ _ _ _ rd (fun _ h=>by cases h)) hlen hge hgm Uc;rw[tot];refine yP (l:=A.toList) (by have:=ZF (xs:=A);omega) (fun j hj=>by
      rw[ZP];have:=congrArg (fun l:List Value=>l[j]?) hAl;simp only[Zw]at this;rw[VJ Uc]at this;exact this) (.inr ?_)
     rw[d2,b2,show 0+(v1.length+nv.length)=(i+1)*inf.size by omega,ZP,l1];rfl
    ·simp only[Z3]at hc;subst hc;exact⟨unew d1,.inl (Zf _)⟩
    ·have s1:Same (fun c=>c∉[b]++[vb]) w W1:=by rw[hW1];exact v6 w _
     obtain⟨u1,u2,u3,u4⟩:=dU (b:=w.heap.size) nv (i*inf.size) W1;obtain⟨t1,t2,t3,t4⟩:=dU (b:=w.heap.size) v3 ((i+1)*inf.size) W2.drew;rw[<-hW2]at u1 u2 u3 u4;refine⟨(t1.trans u1).trans s1.os,(t2.trans u2).trans s1.tape,(t3.trans u3).trans s1.output,?_,fun c hc hn'=>?_⟩
     ·rw[t4];show w.heap.size<=W2.heap.size;rw[u4];exact s1.size
     ·rw[cX Uc];show W2.heap[c]?=_;rw[hW2,cX Uc];exact hold c hc
def vI {P:Program}{T:wE}{f:FuncId}{t tn e:TypeId}{ti:TI}{sz bytes:Nat}(hT:bG P T)(hl:lk T.elL t=some (e,ti,bytes))(hsz:ti.zero.length=sz)(hby:bytes<=64)(htn:P.underlying tn=some (.int Za)) 
 (hA:FJ P f t) (hS:FL P f t sz) (hG:FK P f t tn sz) {es:af} {x:ax} {i:Int} (hp:0<=i/\i<=es.length/\es.length<=1073741824) (hs:bN es) (hx:bN [x]):
 BF P f [.one (.s sz es),.j i,.one (.s sz [x])] [.one (.s sz (JW es i x))]:=by
 rcases hT.el t with q|⟨y,q1,q2⟩
 ·rw[hl]at q;cases q
 ·rw[hl]at q1;cases q1;exact Hu q2 hsz hby htn hA hS hG hp hs hx
end Go.V