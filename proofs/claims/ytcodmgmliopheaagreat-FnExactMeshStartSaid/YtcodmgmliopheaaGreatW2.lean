/-
  slices.Sort at ints, as a contract of a function that writes into its argument's row.
-/
import Derived.Test.YtcodmgmliopheaaGreatHA
import Derived.Sort.OwnSortedInts
import Derived.Shelf.Sort.Plain
import Derived.Ground.Names2Prog
import Derived.Shelf.Slices.In.SortNone
set_option linter.all false
namespace Go.V
open Go Go.Sort Go.Proofs
def Kw :ay->Int
 |[.v (.int .i64 x)]=>x
 |_=>0
def j7 (l:aa):List Int:=l.map Kw
def srtL (l:aa):aa:=eM ((j7 l).mergeSort fun x y=>decide (x<=y))
theorem E9 {e:ay}(h:bM [tI] e):e=[.i (Kw e)]:=by
 unfold bM at h
 match e,h with
 | [.v (.int k x)],h=>
   obtain⟨⟨h1,_⟩,_⟩:=h;cases h1;rfl
theorem xj {l:aa}(h:Rw [tI] l):l=eM (j7 l):=by
 unfold eM j7;rw[List.map_map]
 conv=>lhs;rw[<-List.map_id l]
 apply List.map_congr_left;intro e he;exact E9 (h.2 e he)
theorem Bq {l:List Int}:j7 (eM l)=l:=by
 unfold eM j7;rw[List.map_map]
 conv=>rhs;rw[<-List.map_id l]
 rfl
theorem yc {w:World}:∀ {zs:List Int} {vs:List Value} {S:List Nat},be w 1 (eM zs) vs S->vs=zs.map (Value.int .i64)/\S=[]
 | [],vs,S,h=>by
   simp only[eM,List.map_nil,be]at h;exact h
 | z::zs,vs,S,h=>by
   simp only[eM,List.map_cons,be]at h;obtain⟨v1,v2,S1,S2,rfl,_,h1,h2,rfl⟩:=h;simp only[ak,bB]at h1;obtain⟨v,_,T1,T2,rfl,⟨rfl,_,rfl⟩,⟨rfl,rfl⟩,rfl⟩:=h1;obtain⟨rfl,rfl⟩:=yc h2;exact⟨rfl,rfl⟩
theorem Fg {w:World}:∀ {zs:List Int},be w 1 (eM zs) (zs.map (Value.int .i64)) []
 |[]=>by simp only[eM,List.map_nil,be];exact⟨trivial,trivial⟩
 | z::zs=>by
   simp only[eM,List.map_cons,be];refine⟨[.int .i64 z],zs.map (Value.int .i64),[],[],rfl,rfl,?_,Fg,rfl⟩;simp only[ak,bB];exact⟨_,[],[],[],rfl,⟨rfl,rfl,rfl⟩,⟨rfl,rfl⟩,rfl⟩
theorem FB {w:World}{b off:Nat}{cur:Array Value}{ty:TypeId}{zs:List Int}(hb:w.heap[b]?=some (.cells cur ty (0,0)))(ht:(cur.toList.drop off).take zs.length=zs.map (Value.int .i64)):Holds (Value.int .i64) w b off zs.toArray:=by
 intro j hj;have hj':j<zs.length:=by simpa using hj
 refine⟨?_,by simp[World.frozen?,hb]⟩;have h1:((cur.toList.drop off).take zs.length)[j]?=(zs.map (Value.int .i64))[j]?:=by rw[ht]
 rw[List.getElem?_take_of_lt hj',List.getElem?_drop]at h1;simp only[World.cell?,hb];simp only[Option.isSome_none,Bool.false_eq_true,if_false];rw[<-Array.getElem?_toList,h1];simp[hj']
theorem Fx {w:World}{b n off:Nat}{os:Array Obj}{cur:Array Value}{ty:TypeId}(d:Array Int)(hb:w.heap[b]?=some (.cells cur ty (0,0))):
 (grow (putRow (Value.int .i64) (Sort.ahead w n) b off d) os).heap[b]?=some (.cells (putCells (Value.int .i64) off d cur) ty (0,0)):=by
 have hg:b<w.heap.size:=(Array.getElem?_eq_some_iff.1 hb).1;rw[heap_grow_old _ _ (by simpa using hg)];simp[putRow,mapBlock,Sort.ahead,Array.getElem?_modify,hb,onCells]
theorem DW {cur:Array Value}{off:Nat}{ts:List Int}(h:off+ts.length<=cur.size):((putCells (Value.int .i64) off ts.toArray cur).toList.drop off).take ts.length=ts.map (Value.int .i64):=by
 apply List.ext_getElem?;intro j;by_cases hj:j<ts.length
 ·rw[List.getElem?_take_of_lt hj,List.getElem?_drop,Array.getElem?_toList];simp[putCells,hj,show off+j<cur.size by omega]
 ·rw[List.getElem?_take_eq_none (by omega),List.getElem?_eq_none (by simp;omega)]
theorem Hl {w:World}{b n off:Nat}{os:Array Obj}(d:Array Int):Same (fun c=>c∉[b]) w (grow (putRow (Value.int .i64) (Sort.ahead w n) b off d) os):=by
 refine⟨rfl,rfl,rfl,by simp[grow,putRow,mapBlock,Sort.ahead],fun k hk hne=>?_⟩;rw[heap_grow_old _ _ (by simpa using hk)];have:b≠k:=fun e=>hne (by rw[e];simp)
 simp[putRow,mapBlock,Sort.ahead,Array.getElem?_modify,this]
theorem Ea {P:Program}{f:FuncId} 
 (h0:∀ (p:Option Addr) (cap:Nat) (w:World),Calls P f #[.slice p 0 cap] w fun e w'=>e=.returned (.tuple #[])/\w'=w)
 (h1:∀ (blk off cap:Nat) (zs:List Int) (w:World),Holds (Value.int .i64) w blk off zs.toArray->blk<w.heap.size->zs.length<4611686018427387904->
   Calls P f #[.slice (some ⟨blk,off,none⟩) zs.length cap] w fun e w'=>e=.returned (.tuple #[])/\∃ n os,w'=grow (putRow (Value.int .i64) (Sort.ahead w n) blk off (zs.mergeSort fun x y=>decide (x<=y)).toArray) os)
 (l:aa) (hp:Rw [tI] l/\l.length<=70368744177664):zz P f [.one (.s 1 l)] [.s 1 (srtL l)] []:=by
 unfold srtL;obtain⟨hp,hn⟩:=hp;have e:=xj hp;generalize j7 l=zs at e;subst e;intro w vs S hr hnd hU;simp only[bS,jM]at hr;obtain⟨v,_,S1,S2,rfl,hs,⟨rfl,rfl⟩,rfl⟩:=hr;simp only[List.append_nil]at hnd hU ⊢;have hs0:=hs;simp only[bB]at hs;obtain⟨base,len,cap,rfl,rfl,h3,h4,h5⟩:=hs;have hz:(eM zs).length=zs.length:=bV;rw[hz]at hn;by_cases c:zs=[]
 ·subst c;refine(h0 base cap w).mono ?_;rintro _ _ ⟨rfl,rfl⟩;refine⟨_,[],S1,rfl,⟨[],rfl,⟨rfl,rfl⟩⟩,?_,hnd,fun b hb=>⟨hU b hb,.inr hb⟩,⟨rfl,rfl,rfl,Nat.le_refl _,fun _ _ _=>rfl⟩⟩;show ak _ [.s 1 (eM (List.mergeSort [] _))] ([_]++[]) S1;rw[List.mergeSort_nil];simp only[List.append_nil,ak];exact⟨_,[],S1,[],rfl,hs0,⟨rfl,rfl⟩,by simp⟩
 ·have hl:0<zs.length:=List.length_pos_iff.2 c;rw[hz]at h3 h5;rcases h5 with⟨h5,_⟩|⟨b,off,cur,ty,fz,S',rfl,hb,h6,h7,rfl⟩
  ·omega
  rw[Nat.mul_one]at h6 h7;obtain⟨q1,rfl⟩:=yc h7;have hfz:=(hU b (by simp)).cells hb;subst hfz;have hbl:b<w.heap.size:=(Array.getElem?_eq_some_iff.1 hb).1;have hml:(zs.mergeSort fun x y=>decide (x<=y)).length=zs.length:=List.length_mergeSort _;rw[hz];refine(h1 b off cap zs w (FB hb q1) hbl (by omega)).mono ?_;rintro _ _ ⟨rfl,n,os,rfl⟩;have hb':=Fx (n:=n) (off:=off) (os:=os) (zs.mergeSort fun x y=>decide (x<=y)).toArray hb;refine⟨_,[],[b],rfl,⟨[],rfl,⟨rfl,rfl⟩⟩,?_,hnd,fun k hk=>⟨?_,.inr hk⟩,Hl _⟩
  ·show ak _ [.s 1 _] ([_]++[]) [b];simp only[List.append_nil,ak];refine⟨_,[],[b],[],rfl,?_,⟨rfl,rfl⟩,by simp⟩;simp only[bB];refine⟨_,_,_,rfl,?_,h3,h4,.inr ⟨b,off,_,ty,(0,0),[],rfl,hb',?_,?_,rfl⟩⟩
   ·rw[bV,hml]
   ·rw[Nat.mul_one];simp[putCells];omega
   ·have k:=DW (cur:=cur) (off:=off) (ts:=zs.mergeSort fun x y=>decide (x<=y)) (by omega);rw[hml]at k;rw[Nat.mul_one,k];exact Fg
  ·simp at hk;subst hk;exact .inl ⟨_,_,hb'⟩
end Go.V