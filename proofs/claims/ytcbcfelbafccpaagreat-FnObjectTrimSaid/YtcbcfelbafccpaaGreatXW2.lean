/-
  slices.Sort at ints, as a contract of a function that writes into its argument's row.
-/
import Derived.Test.YtcbcfelbafccpaaGreatXHA
import Derived.Sort.OwnSortedInts
import Derived.Shelf.Sort.Plain
import Derived.Ground.Names2Prog
import Derived.Shelf.Slices.In.SortNone
set_option linter.all false
open Go
open IntKind renaming i64->Za
open List renaming map_map->Xq,map_id->Vq,map_nil->YO,map_cons->ZU,getElem?_take_of_lt->Wx,getElem?_drop->Zv,append_nil->Z4
open Nat renaming mul_one->XX
open Value renaming int->Zq
open _root_.Array renaming getElem?_toList->ZX,getElem?_eq_some_iff->Zz,getElem?_modify->YQ
namespace Go.V
open Go Go.Sort Go.Proofs
def LJ:ax->Int
 |[.v (.int Za x)]=>x
 |_=>0
def nH (l:af):List Int:=l.map LJ
def srtL (l:af):af:=jG ((nH l).mergeSort fun x y=>decide (x<=y))
def Gp {e:ax}(h:bU [tI] e):e=[.i (LJ e)]:=by
 unfold bU at h
 match e,h with
 | [.v (.int k x)],h=>
   obtain⟨⟨h1,_⟩,_⟩:=h;cases h1;rfl
def xu {l:af}(h:Rw [tI] l):l=jG (nH l):=by
 unfold jG nH;rw[Xq]
 conv=>lhs;rw[<-Vq l]
 apply List.map_congr_left;intro e he;exact Gp (h.2 e he)
def Ck {l:List Int}:nH (jG l)=l:=by
 unfold jG nH;rw[Xq]
 conv=>rhs;rw[<-Vq l]
 rfl
def yk {w:World}:∀ {zs:List Int} {vs:List Value} {S:List Nat},bE w 1 (jG zs) vs S->vs=zs.map (Zq Za)/\S=[]
 | [],vs,S,h=>by
   simp only[jG,YO,bE]at h;exact h
 | z::zs,vs,S,h=>by
   simp only[jG,ZU,bE]at h;obtain⟨v1,v2,S1,S2,rfl,_,h1,h2,rfl⟩:=h;simp only[aj,bO]at h1;obtain⟨v,_,T1,T2,rfl,⟨rfl,_,rfl⟩,⟨rfl,rfl⟩,rfl⟩:=h1;obtain⟨rfl,rfl⟩:=yk h2;exact⟨rfl,rfl⟩
def Gx {w:World}:∀ {zs:List Int},bE w 1 (jG zs) (zs.map (Zq Za)) []
 |[]=>by simp only[jG,YO,bE];exact⟨trivial,trivial⟩
 | z::zs=>by
   simp only[jG,ZU,bE];refine⟨[.int Za z],zs.map (Zq Za),[],[],rfl,rfl,?_,Gx,rfl⟩;simp only[aj,bO];exact⟨_,[],[],[],rfl,⟨rfl,rfl,rfl⟩,⟨rfl,rfl⟩,rfl⟩
def GP {w:World}{b off:Nat}{cur:Array Value}{ty:TypeId}{zs:List Int}(hb:w.heap[b]?=some (.cells cur ty (0,0)))(ht:(cur.toList.drop off).take zs.length=zs.map (Zq Za)):Holds (Zq Za) w b off zs.toArray:=by
 intro j hj;have hj':j<zs.length:=by simpa using hj
 refine⟨?_,by simp[World.frozen?,hb]⟩;have h1:((cur.toList.drop off).take zs.length)[j]?=(zs.map (Zq Za))[j]?:=by rw[ht]
 rw[Wx hj',Zv]at h1;simp only[World.cell?,hb];simp only[Option.isSome_none,Bool.false_eq_true,if_false];rw[<-ZX,h1];simp[hj']
def GL {w:World}{b n off:Nat}{os:Array Obj}{cur:Array Value}{ty:TypeId}(d:Array Int)(hb:w.heap[b]?=some (.cells cur ty (0,0))):
 (grow (putRow (Zq Za) (Sort.ahead w n) b off d) os).heap[b]?=some (.cells (putCells (Zq Za) off d cur) ty (0,0)):=by
 have hg:b<w.heap.size:=(Zz.1 hb).1;rw[heap_grow_old _ _ (by simpa using hg)];simp[putRow,mapBlock,Sort.ahead,YQ,hb,onCells]
def EQ {cur:Array Value}{off:Nat}{ts:List Int}(h:off+ts.length<=cur.size):((putCells (Zq Za) off ts.toArray cur).toList.drop off).take ts.length=ts.map (Zq Za):=by
 apply List.ext_getElem?;intro j;by_cases hj:j<ts.length
 ·rw[Wx hj,Zv,ZX];simp[putCells,hj,show off+j<cur.size by omega]
 ·rw[List.getElem?_take_eq_none Uc,List.getElem?_eq_none (by simp;omega)]
def H5 {w:World}{b n off:Nat}{os:Array Obj}(d:Array Int):Same (fun c=>c∉[b]) w (grow (putRow (Zq Za) (Sort.ahead w n) b off d) os):=by
 refine⟨rfl,rfl,rfl,by simp[grow,putRow,mapBlock,Sort.ahead],fun k hk hne=>?_⟩;rw[heap_grow_old _ _ (by simpa using hk)];have:b≠k:=fun e=>hne (by rw[e];simp)
 simp[putRow,mapBlock,Sort.ahead,YQ,this]
def E9 {P:Program}{f:FuncId} 
 (h0:∀ (p:Option Addr) (cap:Nat) (w:World),Calls P f #[.slice p 0 cap] w fun e w'=>e=.returned (.tuple #[])/\w'=w)
 (h1:∀ (blk off cap:Nat) (zs:List Int) (w:World),Holds (Zq Za) w blk off zs.toArray->blk<w.heap.size->zs.length<4611686018427387904->
   Calls P f #[.slice (some ⟨blk,off,none⟩) zs.length cap] w fun e w'=>e=.returned (.tuple #[])/\∃ n os,w'=grow (putRow (Zq Za) (Sort.ahead w n) blk off (zs.mergeSort fun x y=>decide (x<=y)).toArray) os)
 (l:af) (hp:Rw [tI] l/\l.length<=70368744177664):EH P f [.one (.s 1 l)] [.s 1 (srtL l)] []:=by
 unfold srtL;obtain⟨hp,hn⟩:=hp;have e:=xu hp;generalize nH l=zs at e;subst e;intro w vs S hr hnd hU;simp only[bW,hH]at hr;obtain⟨v,_,S1,S2,rfl,hs,⟨rfl,rfl⟩,rfl⟩:=hr;simp only[Z4]at hnd hU ⊢;have hs0:=hs;simp only[bO]at hs;obtain⟨base,len,cap,rfl,rfl,h3,h4,h5⟩:=hs;have hz:(jG zs).length=zs.length:=iQ;rw[hz]at hn;by_cases c:zs=[]
 ·subst c;refine(h0 base cap w).mono ?_;rintro _ _ ⟨rfl,rfl⟩;refine⟨_,[],S1,rfl,⟨[],rfl,⟨rfl,rfl⟩⟩,?_,hnd,fun b hb=>⟨hU b hb,.inr hb⟩,⟨rfl,rfl,rfl,Nat.le_refl _,fun _ _ _=>rfl⟩⟩;show aj _ [.s 1 (jG (List.mergeSort [] _))] ([_]++[]) S1;rw[List.mergeSort_nil];simp only[Z4,aj];exact⟨_,[],S1,[],rfl,hs0,⟨rfl,rfl⟩,by simp⟩
 ·have hl:0<zs.length:=List.length_pos_iff.2 c;rw[hz]at h3 h5;rcases h5 with⟨h5,_⟩|⟨b,off,cur,ty,fz,S',rfl,hb,h6,h7,rfl⟩;omega
  rw[XX]at h6 h7;obtain⟨q1,rfl⟩:=yk h7;have hfz:=(hU b (by simp)).cells hb;subst hfz;have hbl:b<w.heap.size:=(Zz.1 hb).1;have hml:(zs.mergeSort fun x y=>decide (x<=y)).length=zs.length:=List.length_mergeSort _;rw[hz];refine(h1 b off cap zs w (GP hb q1) hbl Uc).mono ?_;rintro _ _ ⟨rfl,n,os,rfl⟩;have hb':=GL (n:=n) (off:=off) (os:=os) (zs.mergeSort fun x y=>decide (x<=y)).toArray hb;refine⟨_,[],[b],rfl,⟨[],rfl,⟨rfl,rfl⟩⟩,?_,hnd,fun k hk=>⟨?_,.inr hk⟩,H5 _⟩
  ·show aj _ [.s 1 _] ([_]++[]) [b];simp only[Z4,aj];refine⟨_,[],[b],[],rfl,?_,⟨rfl,rfl⟩,by simp⟩;simp only[bO];refine⟨_,_,_,rfl,?_,h3,h4,.inr ⟨b,off,_,ty,(0,0),[],rfl,hb',?_,?_,rfl⟩⟩
   ·rw[iQ,hml]
   ·rw[XX];simp[putCells];omega
   ·have k:=EQ (cur:=cur) (off:=off) (ts:=zs.mergeSort fun x y=>decide (x<=y)) Uc;rw[hml]at k;rw[XX,k];exact Gx
  ·simp at hk;subst hk;exact .inl ⟨_,_,hb'⟩
end Go.V