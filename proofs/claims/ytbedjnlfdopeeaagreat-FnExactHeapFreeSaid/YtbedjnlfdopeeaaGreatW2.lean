/-
  slices.Sort at ints, as a contract of a function that writes into its argument's row.
-/
import Derived.Test.YtbedjnlfdopeeaaGreatHA
import Derived.Sort.OwnSortedInts
import Derived.Shelf.Sort.Plain
import Derived.Ground.Names2Prog
import Derived.Shelf.Slices.In.SortNone
set_option linter.all false
open Go
open IntKind renaming i64->Za
open List renaming map_map->Xd,map_id->Wl,map_nil->Y5,map_cons->ZW,getElem?_take_of_lt->Y3,getElem?_drop->ZA,append_nil->Yc
open Nat renaming mul_one->Wa
open Value renaming int->Zi
open _root_.Array renaming getElem?_toList->Z0,getElem?_eq_some_iff->ZH,getElem?_modify->YX
namespace Go.V
open Go Go.Sort Go.Proofs
def R6:ay->Int
 |[.v (.int Za x)]=>x
 |_=>0
def qS (l:aa):List Int:=l.map R6
def srtL (l:aa):aa:=jo ((qS l).mergeSort fun x y=>decide (x<=y))
theorem LN {e:ay}(h:cp [tI] e):e=[.i (R6 e)]:=by
 unfold cp at h
 match e,h with
 | [.v (.int k x)],h=>
   obtain⟨⟨h1,_⟩,_⟩:=h;cases h1;rfl
theorem CX {l:aa}(h:Rw [tI] l):l=jo (qS l):=by
 unfold jo qS;rw[Xd]
 conv=>lhs;rw[<-Wl l]
 apply List.map_congr_left;intro e he;exact LN (h.2 e he)
theorem HS {l:List Int}:qS (jo l)=l:=by
 unfold jo qS;rw[Xd]
 conv=>rhs;rw[<-Wl l]
 rfl
theorem Eb {w:World}:∀ {zs:List Int} {vs:List Value} {S:List Nat},bG w 1 (jo zs) vs S->vs=zs.map (Zi Za)/\S=[]
 | [],vs,S,h=>by
   simp only[jo,Y5,bG]at h;exact h
 | z::zs,vs,S,h=>by
   simp only[jo,ZW,bG]at h;obtain⟨v1,v2,S1,S2,rfl,_,h1,h2,rfl⟩:=h;simp only[am,bP]at h1;obtain⟨v,_,T1,T2,rfl,⟨rfl,_,rfl⟩,⟨rfl,rfl⟩,rfl⟩:=h1;obtain⟨rfl,rfl⟩:=Eb h2;exact⟨rfl,rfl⟩
theorem LU {w:World}:∀ {zs:List Int},bG w 1 (jo zs) (zs.map (Zi Za)) []
 |[]=>by simp only[jo,Y5,bG];exact⟨trivial,trivial⟩
 | z::zs=>by
   simp only[jo,ZW,bG];refine⟨[.int Za z],zs.map (Zi Za),[],[],rfl,rfl,?_,LU,rfl⟩;simp only[am,bP];exact⟨_,[],[],[],rfl,⟨rfl,rfl,rfl⟩,⟨rfl,rfl⟩,rfl⟩
theorem Mj {w:World}{b off:Nat}{cur:Array Value}{ty:TypeId}{zs:List Int}(hb:w.heap[b]?=some (.cells cur ty (0,0)))(ht:(cur.toList.drop off).take zs.length=zs.map (Zi Za)):Holds (Zi Za) w b off zs.toArray:=by
 intro j hj;have hj':j<zs.length:=by simpa using hj
 refine⟨?_,by simp[World.frozen?,hb]⟩;have h1:((cur.toList.drop off).take zs.length)[j]?=(zs.map (Zi Za))[j]?:=by rw[ht]
 rw[Y3 hj',ZA]at h1;simp only[World.cell?,hb];simp only[Option.isSome_none,Bool.false_eq_true,if_false];rw[<-Z0,h1];simp[hj']
theorem Me {w:World}{b n off:Nat}{os:Array Obj}{cur:Array Value}{ty:TypeId}(d:Array Int)(hb:w.heap[b]?=some (.cells cur ty (0,0))):
 (grow (putRow (Zi Za) (Sort.ahead w n) b off d) os).heap[b]?=some (.cells (putCells (Zi Za) off d cur) ty (0,0)):=by
 have hg:b<w.heap.size:=(ZH.1 hb).1;rw[heap_grow_old _ _ (by simpa using hg)];simp[putRow,mapBlock,Sort.ahead,YX,hb,onCells]
theorem Kq {cur:Array Value}{off:Nat}{ts:List Int}(h:off+ts.length<=cur.size):((putCells (Zi Za) off ts.toArray cur).toList.drop off).take ts.length=ts.map (Zi Za):=by
 apply List.ext_getElem?;intro j;by_cases hj:j<ts.length
 ·rw[Y3 hj,ZA,Z0];simp[putCells,hj,show off+j<cur.size by omega]
 ·rw[List.getElem?_take_eq_none (by omega),List.getElem?_eq_none (by simp;omega)]
theorem NY {w:World}{b n off:Nat}{os:Array Obj}(d:Array Int):Same (fun c=>c∉[b]) w (grow (putRow (Zi Za) (Sort.ahead w n) b off d) os):=by
 refine⟨rfl,rfl,rfl,by simp[grow,putRow,mapBlock,Sort.ahead],fun k hk hne=>?_⟩;rw[heap_grow_old _ _ (by simpa using hk)];have:b≠k:=fun e=>hne (by rw[e];simp)
 simp[putRow,mapBlock,Sort.ahead,YX,this]
theorem KI {P:Program}{f:FuncId} 
 (h0:∀ (p:Option Addr) (cap:Nat) (w:World),Calls P f #[.slice p 0 cap] w fun e w'=>e=.returned (.tuple #[])/\w'=w)
 (h1:∀ (blk off cap:Nat) (zs:List Int) (w:World),Holds (Zi Za) w blk off zs.toArray->blk<w.heap.size->zs.length<4611686018427387904->
   Calls P f #[.slice (some ⟨blk,off,none⟩) zs.length cap] w fun e w'=>e=.returned (.tuple #[])/\∃ n os,w'=grow (putRow (Zi Za) (Sort.ahead w n) blk off (zs.mergeSort fun x y=>decide (x<=y)).toArray) os)
 (l:aa) (hp:Rw [tI] l/\l.length<=70368744177664):Fu P f [.one (.s 1 l)] [.s 1 (srtL l)] []:=by
 unfold srtL;obtain⟨hp,hn⟩:=hp;have e:=CX hp;generalize qS l=zs at e;subst e;intro w vs S hr hnd hU;simp only[bW,lR]at hr;obtain⟨v,_,S1,S2,rfl,hs,⟨rfl,rfl⟩,rfl⟩:=hr;simp only[Yc]at hnd hU ⊢;have hs0:=hs;simp only[bP]at hs;obtain⟨base,len,cap,rfl,rfl,h3,h4,h5⟩:=hs;have hz:(jo zs).length=zs.length:=cn;rw[hz]at hn;by_cases c:zs=[]
 ·subst c;refine(h0 base cap w).mono ?_;rintro _ _ ⟨rfl,rfl⟩;refine⟨_,[],S1,rfl,⟨[],rfl,⟨rfl,rfl⟩⟩,?_,hnd,fun b hb=>⟨hU b hb,.inr hb⟩,⟨rfl,rfl,rfl,Nat.le_refl _,fun _ _ _=>rfl⟩⟩;show am _ [.s 1 (jo (List.mergeSort [] _))] ([_]++[]) S1;rw[List.mergeSort_nil];simp only[Yc,am];exact⟨_,[],S1,[],rfl,hs0,⟨rfl,rfl⟩,by simp⟩
 ·have hl:0<zs.length:=List.length_pos_iff.2 c;rw[hz]at h3 h5;rcases h5 with⟨h5,_⟩|⟨b,off,cur,ty,fz,S',rfl,hb,h6,h7,rfl⟩;omega
  rw[Wa]at h6 h7;obtain⟨q1,rfl⟩:=Eb h7;have hfz:=(hU b (by simp)).cells hb;subst hfz;have hbl:b<w.heap.size:=(ZH.1 hb).1;have hml:(zs.mergeSort fun x y=>decide (x<=y)).length=zs.length:=List.length_mergeSort _;rw[hz];refine(h1 b off cap zs w (Mj hb q1) hbl (by omega)).mono ?_;rintro _ _ ⟨rfl,n,os,rfl⟩;have hb':=Me (n:=n) (off:=off) (os:=os) (zs.mergeSort fun x y=>decide (x<=y)).toArray hb;refine⟨_,[],[b],rfl,⟨[],rfl,⟨rfl,rfl⟩⟩,?_,hnd,fun k hk=>⟨?_,.inr hk⟩,NY _⟩
  ·show am _ [.s 1 _] ([_]++[]) [b];simp only[Yc,am];refine⟨_,[],[b],[],rfl,?_,⟨rfl,rfl⟩,by simp⟩;simp only[bP];refine⟨_,_,_,rfl,?_,h3,h4,.inr ⟨b,off,_,ty,(0,0),[],rfl,hb',?_,?_,rfl⟩⟩
   ·rw[cn,hml]
   ·rw[Wa];simp[putCells];omega
   ·have k:=Kq (cur:=cur) (off:=off) (ts:=zs.mergeSort fun x y=>decide (x<=y)) (by omega);rw[hml]at k;rw[Wa,k];exact LU
  ·simp at hk;subst hk;exact .inl ⟨_,_,hb'⟩
end Go.V