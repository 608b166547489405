/-
  slices.Sort at ints, as a contract of a function that writes into its argument's row.
-/
import Derived.Test.YtcodmgmliopheaaGreatXHA
import Derived.Sort.OwnSortedInts
import Derived.Shelf.Sort.Plain
import Derived.Ground.Names2Prog
import Derived.Shelf.Slices.In.SortNone
set_option linter.all false
open Go
open List renaming map_map->af4,map_id->ag6,map_nil->afA,map_cons->adH,getElem?_take_of_lt->afT,getElem?_drop->ac6,append_nil->adP
open Nat renaming mul_one->agh
open Value renaming int->adg
open _root_.Array renaming getElem?_toList->adn,getElem?_eq_some_iff->aaB,getElem?_modify->aef
namespace Go.V
open Go Go.Sort Go.Proofs
def R0 :ay->Int
 |[.v (.int .i64 x)]=>x
 |_=>0
def qP (l:aa):List Int:=l.map R0
def srtL (l:aa):aa:=jc ((qP l).mergeSort fun x y=>decide (x<=y))
theorem LZ {e:ay}(h:cG [tI] e):e=[.i (R0 e)]:=by
 unfold cG at h
 match e,h with
 | [.v (.int k x)],h=>
   obtain⟨⟨h1,_⟩,_⟩:=h;cases h1;rfl
theorem Db {l:aa}(h:Rw [tI] l):l=jc (qP l):=by
 unfold jc qP;rw[af4]
 conv=>lhs;rw[<-ag6 l]
 apply List.map_congr_left;intro e he;exact LZ (h.2 e he)
theorem HU {l:List Int}:qP (jc l)=l:=by
 unfold jc qP;rw[af4]
 conv=>rhs;rw[<-ag6 l]
 rfl
theorem El {w:World}:∀ {zs:List Int} {vs:List Value} {S:List Nat},bH w 1 (jc zs) vs S->vs=zs.map (adg .i64)/\S=[]
 | [],vs,S,h=>by
   simp only[jc,afA,bH]at h;exact h
 | z::zs,vs,S,h=>by
   simp only[jc,adH,bH]at h;obtain⟨v1,v2,S1,S2,rfl,_,h1,h2,rfl⟩:=h;simp only[am,bO]at h1;obtain⟨v,_,T1,T2,rfl,⟨rfl,_,rfl⟩,⟨rfl,rfl⟩,rfl⟩:=h1;obtain⟨rfl,rfl⟩:=El h2;exact⟨rfl,rfl⟩
theorem L6 {w:World}:∀ {zs:List Int},bH w 1 (jc zs) (zs.map (adg .i64)) []
 |[]=>by simp only[jc,afA,bH];exact⟨trivial,trivial⟩
 | z::zs=>by
   simp only[jc,adH,bH];refine⟨[.int .i64 z],zs.map (adg .i64),[],[],rfl,rfl,?_,L6,rfl⟩;simp only[am,bO];exact⟨_,[],[],[],rfl,⟨rfl,rfl,rfl⟩,⟨rfl,rfl⟩,rfl⟩
theorem Mz {w:World}{b off:Nat}{cur:Array Value}{ty:TypeId}{zs:List Int}(hb:w.heap[b]?=some (.cells cur ty (0,0)))(ht:(cur.toList.drop off).take zs.length=zs.map (adg .i64)):Holds (adg .i64) w b off zs.toArray:=by
 intro j hj;have hj':j<zs.length:=by simpa using hj
 refine⟨?_,by simp[World.frozen?,hb]⟩;have h1:((cur.toList.drop off).take zs.length)[j]?=(zs.map (adg .i64))[j]?:=by rw[ht]
 rw[afT hj',ac6]at h1;simp only[World.cell?,hb];simp only[Option.isSome_none,Bool.false_eq_true,if_false];rw[<-adn,h1];simp[hj']
theorem Mv {w:World}{b n off:Nat}{os:Array Obj}{cur:Array Value}{ty:TypeId}(d:Array Int)(hb:w.heap[b]?=some (.cells cur ty (0,0))):
 (grow (putRow (adg .i64) (Sort.ahead w n) b off d) os).heap[b]?=some (.cells (putCells (adg .i64) off d cur) ty (0,0)):=by
 have hg:b<w.heap.size:=(aaB.1 hb).1;rw[heap_grow_old _ _ (by simpa using hg)];simp[putRow,mapBlock,Sort.ahead,aef,hb,onCells]
theorem KB {cur:Array Value}{off:Nat}{ts:List Int}(h:off+ts.length<=cur.size):((putCells (adg .i64) off ts.toArray cur).toList.drop off).take ts.length=ts.map (adg .i64):=by
 apply List.ext_getElem?;intro j;by_cases hj:j<ts.length
 ·rw[afT hj,ac6,adn];simp[putCells,hj,show off+j<cur.size by omega]
 ·rw[List.getElem?_take_eq_none (by omega),List.getElem?_eq_none (by simp;omega)]
theorem N9 {w:World}{b n off:Nat}{os:Array Obj}(d:Array Int):Same (fun c=>c∉[b]) w (grow (putRow (adg .i64) (Sort.ahead w n) b off d) os):=by
 refine⟨rfl,rfl,rfl,by simp[grow,putRow,mapBlock,Sort.ahead],fun k hk hne=>?_⟩;rw[heap_grow_old _ _ (by simpa using hk)];have:b≠k:=fun e=>hne (by rw[e];simp)
 simp[putRow,mapBlock,Sort.ahead,aef,this]
theorem KO {P:Program}{f:FuncId} 
 (h0:∀ (p:Option Addr) (cap:Nat) (w:World),Calls P f #[.slice p 0 cap] w fun e w'=>e=.returned (.tuple #[])/\w'=w)
 (h1:∀ (blk off cap:Nat) (zs:List Int) (w:World),Holds (adg .i64) w blk off zs.toArray->blk<w.heap.size->zs.length<4611686018427387904->
   Calls P f #[.slice (some ⟨blk,off,none⟩) zs.length cap] w fun e w'=>e=.returned (.tuple #[])/\∃ n os,w'=grow (putRow (adg .i64) (Sort.ahead w n) blk off (zs.mergeSort fun x y=>decide (x<=y)).toArray) os)
 (l:aa) (hp:Rw [tI] l/\l.length<=70368744177664):FI P f [.one (.s 1 l)] [.s 1 (srtL l)] []:=by
 unfold srtL;obtain⟨hp,hn⟩:=hp;have e:=Db hp;generalize qP l=zs at e;subst e;intro w vs S hr hnd hU;simp only[bU,lK]at hr;obtain⟨v,_,S1,S2,rfl,hs,⟨rfl,rfl⟩,rfl⟩:=hr;simp only[adP]at hnd hU ⊢;have hs0:=hs;simp only[bO]at hs;obtain⟨base,len,cap,rfl,rfl,h3,h4,h5⟩:=hs;have hz:(jc zs).length=zs.length:=cg;rw[hz]at hn;by_cases c:zs=[]
 ·subst c;refine(h0 base cap w).mono ?_;rintro _ _ ⟨rfl,rfl⟩;refine⟨_,[],S1,rfl,⟨[],rfl,⟨rfl,rfl⟩⟩,?_,hnd,fun b hb=>⟨hU b hb,.inr hb⟩,⟨rfl,rfl,rfl,Nat.le_refl _,fun _ _ _=>rfl⟩⟩;show am _ [.s 1 (jc (List.mergeSort [] _))] ([_]++[]) S1;rw[List.mergeSort_nil];simp only[adP,am];exact⟨_,[],S1,[],rfl,hs0,⟨rfl,rfl⟩,by simp⟩
 ·have hl:0<zs.length:=List.length_pos_iff.2 c;rw[hz]at h3 h5;rcases h5 with⟨h5,_⟩|⟨b,off,cur,ty,fz,S',rfl,hb,h6,h7,rfl⟩;omega
  rw[agh]at h6 h7;obtain⟨q1,rfl⟩:=El h7;have hfz:=(hU b (by simp)).cells hb;subst hfz;have hbl:b<w.heap.size:=(aaB.1 hb).1;have hml:(zs.mergeSort fun x y=>decide (x<=y)).length=zs.length:=List.length_mergeSort _;rw[hz];refine(h1 b off cap zs w (Mz hb q1) hbl (by omega)).mono ?_;rintro _ _ ⟨rfl,n,os,rfl⟩;have hb':=Mv (n:=n) (off:=off) (os:=os) (zs.mergeSort fun x y=>decide (x<=y)).toArray hb;refine⟨_,[],[b],rfl,⟨[],rfl,⟨rfl,rfl⟩⟩,?_,hnd,fun k hk=>⟨?_,.inr hk⟩,N9 _⟩
  ·show am _ [.s 1 _] ([_]++[]) [b];simp only[adP,am];refine⟨_,[],[b],[],rfl,?_,⟨rfl,rfl⟩,by simp⟩;simp only[bO];refine⟨_,_,_,rfl,?_,h3,h4,.inr ⟨b,off,_,ty,(0,0),[],rfl,hb',?_,?_,rfl⟩⟩
   ·rw[cg,hml]
   ·rw[agh];simp[putCells];omega
   ·have k:=KB (cur:=cur) (off:=off) (ts:=zs.mergeSort fun x y=>decide (x<=y)) (by omega);rw[hml]at k;rw[agh,k];exact L6
  ·simp at hk;subst hk;exact .inl ⟨_,_,hb'⟩
end Go.V