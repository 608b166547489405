/-
  slices.Sort at ints, as a contract of a function that writes into its argument's row.
-/
import Derived.Test.YtbedjnlfdopeeaaGreatYHA
import Derived.Sort.OwnSortedInts
import Derived.Shelf.Sort.Plain
import Derived.Ground.Names2Prog
import Derived.Shelf.Slices.In.SortNone
set_option linter.all false
open Go
open IntKind renaming i64->Za
open List renaming map_map->XC,map_id->Vy,map_nil->Y4,map_cons->ZX,getElem?_take_of_lt->WC,getElem?_drop->Zy,append_nil->Z2
open Nat renaming mul_one->X7
open Value renaming int->Zm
open _root_.Array renaming getElem?_toList->ZZ,getElem?_eq_some_iff->ZF,getElem?_modify->YV
namespace Go.V
open Go Go.Sort Go.Proofs
def Q4:ay->Int
 |[.v (.int Za x)]=>x
 |_=>0
def qT (l:af):List Int:=l.map Q4
def srtL (l:af):af:=jp ((qT l).mergeSort fun x y=>decide (x<=y))
theorem Lf {e:ay}(h:cg [tI] e):e=[.i (Q4 e)]:=by
 unfold cg at h
 match e,h with
 | [.v (.int k x)],h=>
   obtain⟨⟨h1,_⟩,_⟩:=h;cases h1;rfl
theorem CC {l:af}(h:Rw [tI] l):l=jp (qT l):=by
 unfold jp qT;rw[XC]
 conv=>lhs;rw[<-Vy l]
 apply List.map_congr_left;intro e he;exact Lf (h.2 e he)
theorem Hs {l:List Int}:qT (jp l)=l:=by
 unfold jp qT;rw[XC]
 conv=>rhs;rw[<-Vy l]
 rfl
theorem DC {w:World}:∀ {zs:List Int} {vs:List Value} {S:List Nat},bH w 1 (jp zs) vs S->vs=zs.map (Zm Za)/\S=[]
 | [],vs,S,h=>by
   simp only[jp,Y4,bH]at h;exact h
 | z::zs,vs,S,h=>by
   simp only[jp,ZX,bH]at h;obtain⟨v1,v2,S1,S2,rfl,_,h1,h2,rfl⟩:=h;simp only[ap,bQ]at h1;obtain⟨v,_,T1,T2,rfl,⟨rfl,_,rfl⟩,⟨rfl,rfl⟩,rfl⟩:=h1;obtain⟨rfl,rfl⟩:=DC h2;exact⟨rfl,rfl⟩
theorem Lk {w:World}:∀ {zs:List Int},bH w 1 (jp zs) (zs.map (Zm Za)) []
 |[]=>by simp only[jp,Y4,bH];exact⟨trivial,trivial⟩
 | z::zs=>by
   simp only[jp,ZX,bH];refine⟨[.int Za z],zs.map (Zm Za),[],[],rfl,rfl,?_,Lk,rfl⟩;simp only[ap,bQ];exact⟨_,[],[],[],rfl,⟨rfl,rfl,rfl⟩,⟨rfl,rfl⟩,rfl⟩
theorem LF {w:World}{b off:Nat}{cur:Array Value}{ty:TypeId}{zs:List Int}(hb:w.heap[b]?=some (.cells cur ty (0,0)))(ht:(cur.toList.drop off).take zs.length=zs.map (Zm Za)):Holds (Zm Za) w b off zs.toArray:=by
 intro j hj;have hj':j<zs.length:=by simpa using hj
 refine⟨?_,by simp[World.frozen?,hb]⟩;have h1:((cur.toList.drop off).take zs.length)[j]?=(zs.map (Zm Za))[j]?:=by rw[ht]
 rw[WC hj',Zy]at h1;simp only[World.cell?,hb];simp only[Option.isSome_none,Bool.false_eq_true,if_false];rw[<-ZZ,h1];simp[hj']
theorem LB {w:World}{b n off:Nat}{os:Array Obj}{cur:Array Value}{ty:TypeId}(d:Array Int)(hb:w.heap[b]?=some (.cells cur ty (0,0))):
 (grow (putRow (Zm Za) (Sort.ahead w n) b off d) os).heap[b]?=some (.cells (putCells (Zm Za) off d cur) ty (0,0)):=by
 have hg:b<w.heap.size:=(ZF.1 hb).1;rw[heap_grow_old _ _ (by simpa using hg)];simp[putRow,mapBlock,Sort.ahead,YV,hb,onCells]
theorem JJ {cur:Array Value}{off:Nat}{ts:List Int}(h:off+ts.length<=cur.size):((putCells (Zm Za) off ts.toArray cur).toList.drop off).take ts.length=ts.map (Zm Za):=by
 apply List.ext_getElem?;intro j;by_cases hj:j<ts.length
 ·rw[WC hj,Zy,ZZ];simp[putCells,hj,show off+j<cur.size by omega]
 ·rw[List.getElem?_take_eq_none (by omega),List.getElem?_eq_none (by simp;omega)]
theorem Na {w:World}{b n off:Nat}{os:Array Obj}(d:Array Int):Same (fun c=>c∉[b]) w (grow (putRow (Zm Za) (Sort.ahead w n) b off d) os):=by
 refine⟨rfl,rfl,rfl,by simp[grow,putRow,mapBlock,Sort.ahead],fun k hk hne=>?_⟩;rw[heap_grow_old _ _ (by simpa using hk)];have:b≠k:=fun e=>hne (by rw[e];simp)
 simp[putRow,mapBlock,Sort.ahead,YV,this]
theorem J0 {P:Program}{f:FuncId} 
 (h0:∀ (p:Option Addr) (cap:Nat) (w:World),Calls P f #[.slice p 0 cap] w fun e w'=>e=.returned (.tuple #[])/\w'=w)
 (h1:∀ (blk off cap:Nat) (zs:List Int) (w:World),Holds (Zm Za) w blk off zs.toArray->blk<w.heap.size->zs.length<4611686018427387904->
   Calls P f #[.slice (some ⟨blk,off,none⟩) zs.length cap] w fun e w'=>e=.returned (.tuple #[])/\∃ n os,w'=grow (putRow (Zm Za) (Sort.ahead w n) blk off (zs.mergeSort fun x y=>decide (x<=y)).toArray) os)
 (l:af) (hp:Rw [tI] l/\l.length<=70368744177664):E5 P f [.one (.s 1 l)] [.s 1 (srtL l)] []:=by
 unfold srtL;obtain⟨hp,hn⟩:=hp;have e:=CC hp;generalize qT l=zs at e;subst e;intro w vs S hr hnd hU;simp only[bU,jy]at hr;obtain⟨v,_,S1,S2,rfl,hs,⟨rfl,rfl⟩,rfl⟩:=hr;simp only[Z2]at hnd hU ⊢;have hs0:=hs;simp only[bQ]at hs;obtain⟨base,len,cap,rfl,rfl,h3,h4,h5⟩:=hs;have hz:(jp zs).length=zs.length:=cn;rw[hz]at hn;by_cases c:zs=[]
 ·subst c;refine(h0 base cap w).mono ?_;rintro _ _ ⟨rfl,rfl⟩;refine⟨_,[],S1,rfl,⟨[],rfl,⟨rfl,rfl⟩⟩,?_,hnd,fun b hb=>⟨hU b hb,.inr hb⟩,⟨rfl,rfl,rfl,Nat.le_refl _,fun _ _ _=>rfl⟩⟩;show ap _ [.s 1 (jp (List.mergeSort [] _))] ([_]++[]) S1;rw[List.mergeSort_nil];simp only[Z2,ap];exact⟨_,[],S1,[],rfl,hs0,⟨rfl,rfl⟩,by simp⟩
 ·have hl:0<zs.length:=List.length_pos_iff.2 c;rw[hz]at h3 h5;rcases h5 with⟨h5,_⟩|⟨b,off,cur,ty,fz,S',rfl,hb,h6,h7,rfl⟩;omega
  rw[X7]at h6 h7;obtain⟨q1,rfl⟩:=DC h7;have hfz:=(hU b (by simp)).cells hb;subst hfz;have hbl:b<w.heap.size:=(ZF.1 hb).1;have hml:(zs.mergeSort fun x y=>decide (x<=y)).length=zs.length:=List.length_mergeSort _;rw[hz];refine(h1 b off cap zs w (LF hb q1) hbl (by omega)).mono ?_;rintro _ _ ⟨rfl,n,os,rfl⟩;have hb':=LB (n:=n) (off:=off) (os:=os) (zs.mergeSort fun x y=>decide (x<=y)).toArray hb;refine⟨_,[],[b],rfl,⟨[],rfl,⟨rfl,rfl⟩⟩,?_,hnd,fun k hk=>⟨?_,.inr hk⟩,Na _⟩
  ·show ap _ [.s 1 _] ([_]++[]) [b];simp only[Z2,ap];refine⟨_,[],[b],[],rfl,?_,⟨rfl,rfl⟩,by simp⟩;simp only[bQ];refine⟨_,_,_,rfl,?_,h3,h4,.inr ⟨b,off,_,ty,(0,0),[],rfl,hb',?_,?_,rfl⟩⟩
   ·rw[cn,hml]
   ·rw[X7];simp[putCells];omega
   ·have k:=JJ (cur:=cur) (off:=off) (ts:=zs.mergeSort fun x y=>decide (x<=y)) (by omega);rw[hml]at k;rw[X7,k];exact Lk
  ·simp at hk;subst hk;exact .inl ⟨_,_,hb'⟩
end Go.V