/-
  slices.Sort at ints, as a contract of a function that writes into its argument's row.
-/
import Derived.Test.YtpldpilhgjpkjaaGreatHA
import Derived.Sort.OwnSortedInts
import Derived.Shelf.Sort.Plain
import Derived.Ground.Names2Prog
import Derived.Shelf.Slices.In.SortNone
set_option linter.all false
open Go
open IntKind renaming i64->Za
open List renaming map_map->Xs,map_id->Vu,map_nil->YP,map_cons->ZU,getElem?_take_of_lt->Ww,getElem?_drop->Zv,append_nil->Z2
open Nat renaming mul_one->XW
open Value renaming int->Zq
open _root_.Array renaming getElem?_toList->ZW,getElem?_eq_some_iff->Zz,getElem?_modify->YR
namespace Go.V
open Go Go.Sort Go.Proofs
def Mq:aO->Int
 |[.v (.int Za x)]=>x
 |_=>0
def nG (l:af):List Int:=l.map Mq
def srtL (l:af):af:=hH ((nG l).mergeSort fun x y=>decide (x<=y))
theorem GZ {e:aO}(h:cy [tI] e):e=[.i (Mq e)]:=by
 unfold cy at h
 match e,h with
 | [.v (.int k x)],h=>
   obtain⟨⟨h1,_⟩,_⟩:=h;cases h1;rfl
theorem xY {l:af}(h:Rw [tI] l):l=hH (nG l):=by
 unfold hH nG;rw[Xs]
 conv=>lhs;rw[<-Vu l]
 apply List.map_congr_left;intro e he;exact GZ (h.2 e he)
theorem Cz {l:List Int}:nG (hH l)=l:=by
 unfold hH nG;rw[Xs]
 conv=>rhs;rw[<-Vu l]
 rfl
theorem yJ {w:World}:∀ {zs:List Int} {vs:List Value} {S:List Nat},bB w 1 (hH zs) vs S->vs=zs.map (Zq Za)/\S=[]
 | [],vs,S,h=>by
   simp only[hH,YP,bB]at h;exact h
 | z::zs,vs,S,h=>by
   simp only[hH,ZU,bB]at h;obtain⟨v1,v2,S1,S2,rfl,_,h1,h2,rfl⟩:=h;simp only[ak,bN]at h1;obtain⟨v,_,T1,T2,rfl,⟨rfl,_,rfl⟩,⟨rfl,rfl⟩,rfl⟩:=h1;obtain⟨rfl,rfl⟩:=yJ h2;exact⟨rfl,rfl⟩
theorem G7 {w:World}:∀ {zs:List Int},bB w 1 (hH zs) (zs.map (Zq Za)) []
 |[]=>by simp only[hH,YP,bB];exact⟨trivial,trivial⟩
 | z::zs=>by
   simp only[hH,ZU,bB];refine⟨[.int Za z],zs.map (Zq Za),[],[],rfl,rfl,?_,G7,rfl⟩;simp only[ak,bN];exact⟨_,[],[],[],rfl,⟨rfl,rfl,rfl⟩,⟨rfl,rfl⟩,rfl⟩
theorem Hr {w:World}{b off:Nat}{cur:Array Value}{ty:TypeId}{zs:List Int}(hb:w.heap[b]?=some (.cells cur ty (0,0)))(ht:(cur.toList.drop off).take zs.length=zs.map (Zq Za)):Holds (Zq Za) w b off zs.toArray:=by
 intro j hj;have hj':j<zs.length:=by simpa using hj
 refine⟨?_,by simp[World.frozen?,hb]⟩;have h1:((cur.toList.drop off).take zs.length)[j]?=(zs.map (Zq Za))[j]?:=by rw[ht]
 rw[Ww hj',Zv]at h1;simp only[World.cell?,hb];simp only[Option.isSome_none,Bool.false_eq_true,if_false];rw[<-ZW,h1];simp[hj']
theorem Hm {w:World}{b n off:Nat}{os:Array Obj}{cur:Array Value}{ty:TypeId}(d:Array Int)(hb:w.heap[b]?=some (.cells cur ty (0,0))):
 (grow (putRow (Zq Za) (Sort.ahead w n) b off d) os).heap[b]?=some (.cells (putCells (Zq Za) off d cur) ty (0,0)):=by
 have hg:b<w.heap.size:=(Zz.1 hb).1;rw[heap_grow_old _ _ (by simpa using hg)];simp[putRow,mapBlock,Sort.ahead,YR,hb,onCells]
theorem Fj {cur:Array Value}{off:Nat}{ts:List Int}(h:off+ts.length<=cur.size):((putCells (Zq Za) off ts.toArray cur).toList.drop off).take ts.length=ts.map (Zq Za):=by
 apply List.ext_getElem?;intro j;by_cases hj:j<ts.length
 ·rw[Ww hj,Zv,ZW];simp[putCells,hj,show off+j<cur.size by omega]
 ·rw[List.getElem?_take_eq_none (by omega),List.getElem?_eq_none (by simp;omega)]
theorem IW {w:World}{b n off:Nat}{os:Array Obj}(d:Array Int):Same (fun c=>c∉[b]) w (grow (putRow (Zq Za) (Sort.ahead w n) b off d) os):=by
 refine⟨rfl,rfl,rfl,by simp[grow,putRow,mapBlock,Sort.ahead],fun k hk hne=>?_⟩;rw[heap_grow_old _ _ (by simpa using hk)];have:b≠k:=fun e=>hne (by rw[e];simp)
 simp[putRow,mapBlock,Sort.ahead,YR,this]
theorem FG {P:Program}{f:FuncId} 
 (h0:∀ (p:Option Addr) (cap:Nat) (w:World),Calls P f #[.slice p 0 cap] w fun e w'=>e=.returned (.tuple #[])/\w'=w)
 (h1:∀ (blk off cap:Nat) (zs:List Int) (w:World),Holds (Zq Za) w blk off zs.toArray->blk<w.heap.size->zs.length<4611686018427387904->
   Calls P f #[.slice (some ⟨blk,off,none⟩) zs.length cap] w fun e w'=>e=.returned (.tuple #[])/\∃ n os,w'=grow (putRow (Zq Za) (Sort.ahead w n) blk off (zs.mergeSort fun x y=>decide (x<=y)).toArray) os)
 (l:af) (hp:Rw [tI] l/\l.length<=70368744177664):B0 P f [.one (.s 1 l)] [.s 1 (srtL l)] []:=by
 unfold srtL;obtain⟨hp,hn⟩:=hp;have e:=xY hp;generalize nG l=zs at e;subst e;intro w vs S hr hnd hU;simp only[cd,ie]at hr;obtain⟨v,_,S1,S2,rfl,hs,⟨rfl,rfl⟩,rfl⟩:=hr;simp only[Z2]at hnd hU ⊢;have hs0:=hs;simp only[bN]at hs;obtain⟨base,len,cap,rfl,rfl,h3,h4,h5⟩:=hs;have hz:(hH zs).length=zs.length:=cn;rw[hz]at hn;by_cases c:zs=[]
 ·subst c;refine(h0 base cap w).mono ?_;rintro _ _ ⟨rfl,rfl⟩;refine⟨_,[],S1,rfl,⟨[],rfl,⟨rfl,rfl⟩⟩,?_,hnd,fun b hb=>⟨hU b hb,.inr hb⟩,⟨rfl,rfl,rfl,Nat.le_refl _,fun _ _ _=>rfl⟩⟩;show ak _ [.s 1 (hH (List.mergeSort [] _))] ([_]++[]) S1;rw[List.mergeSort_nil];simp only[Z2,ak];exact⟨_,[],S1,[],rfl,hs0,⟨rfl,rfl⟩,by simp⟩
 ·have hl:0<zs.length:=List.length_pos_iff.2 c;rw[hz]at h3 h5;rcases h5 with⟨h5,_⟩|⟨b,off,cur,ty,fz,S',rfl,hb,h6,h7,rfl⟩;omega
  rw[XW]at h6 h7;obtain⟨q1,rfl⟩:=yJ h7;have hfz:=(hU b (by simp)).cells hb;subst hfz;have hbl:b<w.heap.size:=(Zz.1 hb).1;have hml:(zs.mergeSort fun x y=>decide (x<=y)).length=zs.length:=List.length_mergeSort _;rw[hz];refine(h1 b off cap zs w (Hr hb q1) hbl (by omega)).mono ?_;rintro _ _ ⟨rfl,n,os,rfl⟩;have hb':=Hm (n:=n) (off:=off) (os:=os) (zs.mergeSort fun x y=>decide (x<=y)).toArray hb;refine⟨_,[],[b],rfl,⟨[],rfl,⟨rfl,rfl⟩⟩,?_,hnd,fun k hk=>⟨?_,.inr hk⟩,IW _⟩
  ·show ak _ [.s 1 _] ([_]++[]) [b];simp only[Z2,ak];refine⟨_,[],[b],[],rfl,?_,⟨rfl,rfl⟩,by simp⟩;simp only[bN];refine⟨_,_,_,rfl,?_,h3,h4,.inr ⟨b,off,_,ty,(0,0),[],rfl,hb',?_,?_,rfl⟩⟩
   ·rw[cn,hml]
   ·rw[XW];simp[putCells];omega
   ·have k:=Fj (cur:=cur) (off:=off) (ts:=zs.mergeSort fun x y=>decide (x<=y)) (by omega);rw[hml]at k;rw[XW,k];exact G7
  ·simp at hk;subst hk;exact .inl ⟨_,_,hb'⟩
end Go.V