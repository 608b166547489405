/-
  slices.Sort at ints, as a contract of a function that writes into its argument's row.
-/
import Derived.Test.YtpldpilhgjpkjaaGreatXHA
import Derived.Sort.OwnSortedInts
import Derived.Shelf.Sort.Plain
import Derived.Ground.Names2Prog
import Derived.Shelf.Slices.In.SortNone
set_option linter.all false
open Go
open IntKind renaming i64->Za
open List renaming map_map->XC,map_id->Vx,map_nil->YI,map_cons->ZT,getElem?_take_of_lt->Y4,getElem?_drop->Zv,append_nil->ZY
open Nat renaming mul_one->X9
open Value renaming int->Zi
open _root_.Array renaming getElem?_toList->ZX,getElem?_eq_some_iff->ZD,getElem?_modify->YV
namespace Go.V
open Go Go.Sort Go.Proofs
def Np:aT->Int
 |[.v (.int Za x)]=>x
 |_=>0
def oE (l:af):List Int:=l.map Np
def srtL (l:af):af:=j8 ((oE l).mergeSort fun x y=>decide (x<=y))
theorem HD {e:aT}(h:bR [tI] e):e=[.i (Np e)]:=by
 unfold bR at h
 match e,h with
 | [.v (.int k x)],h=>
   obtain⟨⟨h1,_⟩,_⟩:=h;cases h1;rfl
theorem yn {l:af}(h:Rw [tI] l):l=j8 (oE l):=by
 unfold j8 oE;rw[XC]
 conv=>lhs;rw[<-Vx l]
 apply List.map_congr_left;intro e he;exact HD (h.2 e he)
theorem Dk {l:List Int}:oE (j8 l)=l:=by
 unfold j8 oE;rw[XC]
 conv=>rhs;rw[<-Vx l]
 rfl
theorem zf {w:World}:∀ {zs:List Int} {vs:List Value} {S:List Nat},bF w 1 (j8 zs) vs S->vs=zs.map (Zi Za)/\S=[]
 | [],vs,S,h=>by
   simp only[j8,YI,bF]at h;exact h
 | z::zs,vs,S,h=>by
   simp only[j8,ZT,bF]at h;obtain⟨v1,v2,S1,S2,rfl,_,h1,h2,rfl⟩:=h;simp only[ai,bM]at h1;obtain⟨v,_,T1,T2,rfl,⟨rfl,_,rfl⟩,⟨rfl,rfl⟩,rfl⟩:=h1;obtain⟨rfl,rfl⟩:=zf h2;exact⟨rfl,rfl⟩
theorem HQ {w:World}:∀ {zs:List Int},bF w 1 (j8 zs) (zs.map (Zi Za)) []
 |[]=>by simp only[j8,YI,bF];exact⟨trivial,trivial⟩
 | z::zs=>by
   simp only[j8,ZT,bF];refine⟨[.int Za z],zs.map (Zi Za),[],[],rfl,rfl,?_,HQ,rfl⟩;simp only[ai,bM];exact⟨_,[],[],[],rfl,⟨rfl,rfl,rfl⟩,⟨rfl,rfl⟩,rfl⟩
theorem Ia {w:World}{b off:Nat}{cur:Array Value}{ty:TypeId}{zs:List Int}(hb:w.heap[b]?=some (.cells cur ty (0,0)))(ht:(cur.toList.drop off).take zs.length=zs.map (Zi Za)):Holds (Zi Za) w b off zs.toArray:=by
 intro j hj;have hj':j<zs.length:=by simpa using hj
 refine⟨?_,by simp[World.frozen?,hb]⟩;have h1:((cur.toList.drop off).take zs.length)[j]?=(zs.map (Zi Za))[j]?:=by rw[ht]
 rw[Y4 hj',Zv]at h1;simp only[World.cell?,hb];simp only[Option.isSome_none,Bool.false_eq_true,if_false];rw[<-ZX,h1];simp[hj']
theorem H7 {w:World}{b n off:Nat}{os:Array Obj}{cur:Array Value}{ty:TypeId}(d:Array Int)(hb:w.heap[b]?=some (.cells cur ty (0,0))):
 (grow (putRow (Zi Za) (Sort.ahead w n) b off d) os).heap[b]?=some (.cells (putCells (Zi Za) off d cur) ty (0,0)):=by
 have hg:b<w.heap.size:=(ZD.1 hb).1;rw[heap_grow_old _ _ (by simpa using hg)];simp[putRow,mapBlock,Sort.ahead,YV,hb,onCells]
theorem F3 {cur:Array Value}{off:Nat}{ts:List Int}(h:off+ts.length<=cur.size):((putCells (Zi Za) off ts.toArray cur).toList.drop off).take ts.length=ts.map (Zi Za):=by
 apply List.ext_getElem?;intro j;by_cases hj:j<ts.length
 ·rw[Y4 hj,Zv,ZX];simp[putCells,hj,show off+j<cur.size by omega]
 ·rw[List.getElem?_take_eq_none (by omega),List.getElem?_eq_none (by simp;omega)]
theorem Jx {w:World}{b n off:Nat}{os:Array Obj}(d:Array Int):Same (fun c=>c∉[b]) w (grow (putRow (Zi Za) (Sort.ahead w n) b off d) os):=by
 refine⟨rfl,rfl,rfl,by simp[grow,putRow,mapBlock,Sort.ahead],fun k hk hne=>?_⟩;rw[heap_grow_old _ _ (by simpa using hk)];have:b≠k:=fun e=>hne (by rw[e];simp)
 simp[putRow,mapBlock,Sort.ahead,YV,this]
theorem Gr {P:Program}{f:FuncId} 
 (h0:∀ (p:Option Addr) (cap:Nat) (w:World),Calls P f #[.slice p 0 cap] w fun e w'=>e=.returned (.tuple #[])/\w'=w)
 (h1:∀ (blk off cap:Nat) (zs:List Int) (w:World),Holds (Zi Za) w blk off zs.toArray->blk<w.heap.size->zs.length<4611686018427387904->
   Calls P f #[.slice (some ⟨blk,off,none⟩) zs.length cap] w fun e w'=>e=.returned (.tuple #[])/\∃ n os,w'=grow (putRow (Zi Za) (Sort.ahead w n) blk off (zs.mergeSort fun x y=>decide (x<=y)).toArray) os)
 (l:af) (hp:Rw [tI] l/\l.length<=70368744177664):FY P f [.one (.s 1 l)] [.s 1 (srtL l)] []:=by
 unfold srtL;obtain⟨hp,hn⟩:=hp;have e:=yn hp;generalize oE l=zs at e;subst e;intro w vs S hr hnd hU;simp only[bW,gY]at hr;obtain⟨v,_,S1,S2,rfl,hs,⟨rfl,rfl⟩,rfl⟩:=hr;simp only[ZY]at hnd hU ⊢;have hs0:=hs;simp only[bM]at hs;obtain⟨base,len,cap,rfl,rfl,h3,h4,h5⟩:=hs;have hz:(j8 zs).length=zs.length:=jp;rw[hz]at hn;by_cases c:zs=[]
 ·subst c;refine(h0 base cap w).mono ?_;rintro _ _ ⟨rfl,rfl⟩;refine⟨_,[],S1,rfl,⟨[],rfl,⟨rfl,rfl⟩⟩,?_,hnd,fun b hb=>⟨hU b hb,.inr hb⟩,⟨rfl,rfl,rfl,Nat.le_refl _,fun _ _ _=>rfl⟩⟩;show ai _ [.s 1 (j8 (List.mergeSort [] _))] ([_]++[]) S1;rw[List.mergeSort_nil];simp only[ZY,ai];exact⟨_,[],S1,[],rfl,hs0,⟨rfl,rfl⟩,by simp⟩
 ·have hl:0<zs.length:=List.length_pos_iff.2 c;rw[hz]at h3 h5;rcases h5 with⟨h5,_⟩|⟨b,off,cur,ty,fz,S',rfl,hb,h6,h7,rfl⟩;omega
  rw[X9]at h6 h7;obtain⟨q1,rfl⟩:=zf h7;have hfz:=(hU b (by simp)).cells hb;subst hfz;have hbl:b<w.heap.size:=(ZD.1 hb).1;have hml:(zs.mergeSort fun x y=>decide (x<=y)).length=zs.length:=List.length_mergeSort _;rw[hz];refine(h1 b off cap zs w (Ia hb q1) hbl (by omega)).mono ?_;rintro _ _ ⟨rfl,n,os,rfl⟩;have hb':=H7 (n:=n) (off:=off) (os:=os) (zs.mergeSort fun x y=>decide (x<=y)).toArray hb;refine⟨_,[],[b],rfl,⟨[],rfl,⟨rfl,rfl⟩⟩,?_,hnd,fun k hk=>⟨?_,.inr hk⟩,Jx _⟩
  ·show ai _ [.s 1 _] ([_]++[]) [b];simp only[ZY,ai];refine⟨_,[],[b],[],rfl,?_,⟨rfl,rfl⟩,by simp⟩;simp only[bM];refine⟨_,_,_,rfl,?_,h3,h4,.inr ⟨b,off,_,ty,(0,0),[],rfl,hb',?_,?_,rfl⟩⟩
   ·rw[jp,hml]
   ·rw[X9];simp[putCells];omega
   ·have k:=F3 (cur:=cur) (off:=off) (ts:=zs.mergeSort fun x y=>decide (x<=y)) (by omega);rw[hml]at k;rw[X9,k];exact HQ
  ·simp at hk;subst hk;exact .inl ⟨_,_,hb'⟩
end Go.V