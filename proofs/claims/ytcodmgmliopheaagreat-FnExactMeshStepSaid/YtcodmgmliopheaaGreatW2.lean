/-
  slices.Sort at ints, as a contract of a function that writes into its argument's row.
-/
import Derived.Test.YtcodmgmliopheaaGreatHA
import Derived.Sort.OwnSortedInts
import Derived.Shelf.Sort.Plain
import Derived.Ground.Names2Prog
import Derived.Shelf.Slices.In.SortNone
set_option linter.all false
open Go
open List renaming map_map->YB,map_id->Zt,map_nil->X6,map_cons->Wz,getElem?_take_of_lt->Ym,getElem?_drop->VU,append_nil->WU
open Nat renaming mul_one->YK
open Value renaming int->Wg
open _root_.Array renaming getElem?_toList->V6,getElem?_eq_some_iff->OF,getElem?_modify->WY
namespace Go.V
open Go Go.Sort Go.Proofs
def J0 :ay->Int
 |[.v (.int .i64 x)]=>x
 |_=>0
def kE (l:aa):List Int:=l.map J0
def srtL (l:aa):aa:=eV ((kE l).mergeSort fun x y=>decide (x<=y))
theorem Fg {e:ay}(h:ce [tI] e):e=[.i (J0 e)]:=by
 unfold ce at h
 match e,h with
 | [.v (.int k x)],h=>
   obtain⟨⟨h1,_⟩,_⟩:=h;cases h1;rfl
theorem xP {l:aa}(h:Rw [tI] l):l=eV (kE l):=by
 unfold eV kE;rw[YB]
 conv=>lhs;rw[<-Zt l]
 apply List.map_congr_left;intro e he;exact Fg (h.2 e he)
theorem B0 {l:List Int}:kE (eV l)=l:=by
 unfold eV kE;rw[YB]
 conv=>rhs;rw[<-Zt l]
 rfl
theorem yI {w:World}:∀ {zs:List Int} {vs:List Value} {S:List Nat},bg w 1 (eV zs) vs S->vs=zs.map (Wg .i64)/\S=[]
 | [],vs,S,h=>by
   simp only[eV,X6,bg]at h;exact h
 | z::zs,vs,S,h=>by
   simp only[eV,Wz,bg]at h;obtain⟨v1,v2,S1,S2,rfl,_,h1,h2,rfl⟩:=h;simp only[ak,bC]at h1;obtain⟨v,_,T1,T2,rfl,⟨rfl,_,rfl⟩,⟨rfl,rfl⟩,rfl⟩:=h1;obtain⟨rfl,rfl⟩:=yI h2;exact⟨rfl,rfl⟩
theorem Fi {w:World}:∀ {zs:List Int},bg w 1 (eV zs) (zs.map (Wg .i64)) []
 |[]=>by simp only[eV,X6,bg];exact⟨trivial,trivial⟩
 | z::zs=>by
   simp only[eV,Wz,bg];refine⟨[.int .i64 z],zs.map (Wg .i64),[],[],rfl,rfl,?_,Fi,rfl⟩;simp only[ak,bC];exact⟨_,[],[],[],rfl,⟨rfl,rfl,rfl⟩,⟨rfl,rfl⟩,rfl⟩
theorem FD {w:World}{b off:Nat}{cur:Array Value}{ty:TypeId}{zs:List Int}(hb:w.heap[b]?=some (.cells cur ty (0,0)))(ht:(cur.toList.drop off).take zs.length=zs.map (Wg .i64)):Holds (Wg .i64) w b off zs.toArray:=by
 intro j hj;have hj':j<zs.length:=by simpa using hj
 refine⟨?_,by simp[World.frozen?,hb]⟩;have h1:((cur.toList.drop off).take zs.length)[j]?=(zs.map (Wg .i64))[j]?:=by rw[ht]
 rw[Ym hj',VU]at h1;simp only[World.cell?,hb];simp only[Option.isSome_none,Bool.false_eq_true,if_false];rw[<-V6,h1];simp[hj']
theorem Fz {w:World}{b n off:Nat}{os:Array Obj}{cur:Array Value}{ty:TypeId}(d:Array Int)(hb:w.heap[b]?=some (.cells cur ty (0,0))):
 (grow (putRow (Wg .i64) (Sort.ahead w n) b off d) os).heap[b]?=some (.cells (putCells (Wg .i64) off d cur) ty (0,0)):=by
 have hg:b<w.heap.size:=(OF.1 hb).1;rw[heap_grow_old _ _ (by simpa using hg)];simp[putRow,mapBlock,Sort.ahead,WY,hb,onCells]
theorem Eb {cur:Array Value}{off:Nat}{ts:List Int}(h:off+ts.length<=cur.size):((putCells (Wg .i64) off ts.toArray cur).toList.drop off).take ts.length=ts.map (Wg .i64):=by
 apply List.ext_getElem?;intro j;by_cases hj:j<ts.length
 ·rw[Ym hj,VU,V6];simp[putCells,hj,show off+j<cur.size by omega]
 ·rw[List.getElem?_take_eq_none (by omega),List.getElem?_eq_none (by simp;omega)]
theorem G3 {w:World}{b n off:Nat}{os:Array Obj}(d:Array Int):Same (fun c=>c∉[b]) w (grow (putRow (Wg .i64) (Sort.ahead w n) b off d) os):=by
 refine⟨rfl,rfl,rfl,by simp[grow,putRow,mapBlock,Sort.ahead],fun k hk hne=>?_⟩;rw[heap_grow_old _ _ (by simpa using hk)];have:b≠k:=fun e=>hne (by rw[e];simp)
 simp[putRow,mapBlock,Sort.ahead,WY,this]
theorem Ep {P:Program}{f:FuncId} 
 (h0:∀ (p:Option Addr) (cap:Nat) (w:World),Calls P f #[.slice p 0 cap] w fun e w'=>e=.returned (.tuple #[])/\w'=w)
 (h1:∀ (blk off cap:Nat) (zs:List Int) (w:World),Holds (Wg .i64) w blk off zs.toArray->blk<w.heap.size->zs.length<4611686018427387904->
   Calls P f #[.slice (some ⟨blk,off,none⟩) zs.length cap] w fun e w'=>e=.returned (.tuple #[])/\∃ n os,w'=grow (putRow (Wg .i64) (Sort.ahead w n) blk off (zs.mergeSort fun x y=>decide (x<=y)).toArray) os)
 (l:aa) (hp:Rw [tI] l/\l.length<=70368744177664):Af P f [.one (.s 1 l)] [.s 1 (srtL l)] []:=by
 unfold srtL;obtain⟨hp,hn⟩:=hp;have e:=xP hp;generalize kE l=zs at e;subst e;intro w vs S hr hnd hU;simp only[bQ,j9]at hr;obtain⟨v,_,S1,S2,rfl,hs,⟨rfl,rfl⟩,rfl⟩:=hr;simp only[WU]at hnd hU ⊢;have hs0:=hs;simp only[bC]at hs;obtain⟨base,len,cap,rfl,rfl,h3,h4,h5⟩:=hs;have hz:(eV zs).length=zs.length:=bU;rw[hz]at hn;by_cases c:zs=[]
 ·subst c;refine(h0 base cap w).mono ?_;rintro _ _ ⟨rfl,rfl⟩;refine⟨_,[],S1,rfl,⟨[],rfl,⟨rfl,rfl⟩⟩,?_,hnd,fun b hb=>⟨hU b hb,.inr hb⟩,⟨rfl,rfl,rfl,Nat.le_refl _,fun _ _ _=>rfl⟩⟩;show ak _ [.s 1 (eV (List.mergeSort [] _))] ([_]++[]) S1;rw[List.mergeSort_nil];simp only[WU,ak];exact⟨_,[],S1,[],rfl,hs0,⟨rfl,rfl⟩,by simp⟩
 ·have hl:0<zs.length:=List.length_pos_iff.2 c;rw[hz]at h3 h5;rcases h5 with⟨h5,_⟩|⟨b,off,cur,ty,fz,S',rfl,hb,h6,h7,rfl⟩
  ·omega
  rw[YK]at h6 h7;obtain⟨q1,rfl⟩:=yI h7;have hfz:=(hU b (by simp)).cells hb;subst hfz;have hbl:b<w.heap.size:=(OF.1 hb).1;have hml:(zs.mergeSort fun x y=>decide (x<=y)).length=zs.length:=List.length_mergeSort _;rw[hz];refine(h1 b off cap zs w (FD hb q1) hbl (by omega)).mono ?_;rintro _ _ ⟨rfl,n,os,rfl⟩;have hb':=Fz (n:=n) (off:=off) (os:=os) (zs.mergeSort fun x y=>decide (x<=y)).toArray hb;refine⟨_,[],[b],rfl,⟨[],rfl,⟨rfl,rfl⟩⟩,?_,hnd,fun k hk=>⟨?_,.inr hk⟩,G3 _⟩
  ·show ak _ [.s 1 _] ([_]++[]) [b];simp only[WU,ak];refine⟨_,[],[b],[],rfl,?_,⟨rfl,rfl⟩,by simp⟩;simp only[bC];refine⟨_,_,_,rfl,?_,h3,h4,.inr ⟨b,off,_,ty,(0,0),[],rfl,hb',?_,?_,rfl⟩⟩
   ·rw[bU,hml]
   ·rw[YK];simp[putCells];omega
   ·have k:=Eb (cur:=cur) (off:=off) (ts:=zs.mergeSort fun x y=>decide (x<=y)) (by omega);rw[hml]at k;rw[YK,k];exact Fi
  ·simp at hk;subst hk;exact .inl ⟨_,_,hb'⟩
end Go.V