/-
  slices.Sort at ints, as a contract of a function that writes into its argument's row.
-/
import Derived.Test.YtpldpilhgjpkjaaGreatWHA
import Derived.Sort.OwnSortedInts
import Derived.Shelf.Sort.Plain
import Derived.Ground.Names2Prog
import Derived.Shelf.Slices.In.SortNone
set_option linter.all false
open Go
open IntKind renaming i64->Za
open List renaming map_map->Xr,map_id->Vk,map_nil->YT,map_cons->ZT,getElem?_take_of_lt->XC,getElem?_drop->Zy,append_nil->Yb
open Nat renaming mul_one->XX
open Value renaming int->Zq
open _root_.Array renaming getElem?_toList->Z1,getElem?_eq_some_iff->ZE,getElem?_modify->YM
namespace Go.V
open Go Go.Sort Go.Proofs
def SE:ax->Int
 |[.v (.int Za x)]=>x
 |_=>0
def rr (l:ab):List Int:=l.map SE
def srtL (l:ab):ab:=jd ((rr l).mergeSort fun x y=>decide (x<=y))
def Mk {e:ax}(h:bW [tI] e):e=[.i (SE e)]:=by
 unfold bW at h
 match e,h with
 | [.v (.int k x)],h=>
   obtain⟨⟨h1,_⟩,_⟩:=h;cases h1;rfl
def DD {l:ab}(h:Rw [tI] l):l=jd (rr l):=by
 unfold jd rr;rw[Xr]
 conv=>lhs;rw[<-Vk l]
 apply List.map_congr_left;intro e he;exact Mk (h.2 e he)
def Il {l:List Int}:rr (jd l)=l:=by
 unfold jd rr;rw[Xr]
 conv=>rhs;rw[<-Vk l]
 rfl
def EQ {w:World}:∀ {zs:List Int} {vs:List Value} {S:List Nat},bH w 1 (jd zs) vs S->vs=zs.map (Zq Za)/\S=[]
 | [],vs,S,h=>by
   simp only[jd,YT,bH]at h;exact h
 | z::zs,vs,S,h=>by
   simp only[jd,ZT,bH]at h;obtain⟨v1,v2,S1,S2,rfl,_,h1,h2,rfl⟩:=h;simp only[ak,bN]at h1;obtain⟨v,_,T1,T2,rfl,⟨rfl,_,rfl⟩,⟨rfl,rfl⟩,rfl⟩:=h1;obtain⟨rfl,rfl⟩:=EQ h2;exact⟨rfl,rfl⟩
def Mp {w:World}:∀ {zs:List Int},bH w 1 (jd zs) (zs.map (Zq Za)) []
 |[]=>by simp only[jd,YT,bH];exact⟨trivial,trivial⟩
 | z::zs=>by
   simp only[jd,ZT,bH];refine⟨[.int Za z],zs.map (Zq Za),[],[],rfl,rfl,?_,Mp,rfl⟩;simp only[ak,bN];exact⟨_,[],[],[],rfl,⟨rfl,rfl,rfl⟩,⟨rfl,rfl⟩,rfl⟩
def MH {w:World}{b off:Nat}{cur:Array Value}{ty:TypeId}{zs:List Int}(hb:w.heap[b]?=some (.cells cur ty (0,0)))(ht:(cur.toList.drop off).take zs.length=zs.map (Zq Za)):Holds (Zq Za) w b off zs.toArray:=by
 intro j hj;have hj':j<zs.length:=by simpa using hj
 refine⟨?_,by simp[World.frozen?,hb]⟩;have h1:((cur.toList.drop off).take zs.length)[j]?=(zs.map (Zq Za))[j]?:=by rw[ht]
 rw[XC hj',Zy]at h1;simp only[World.cell?,hb];simp only[Option.isSome_none,Bool.false_eq_true,if_false];rw[<-Z1,h1];simp[hj']
def MD {w:World}{b n off:Nat}{os:Array Obj}{cur:Array Value}{ty:TypeId}(d:Array Int)(hb:w.heap[b]?=some (.cells cur ty (0,0))):
 (grow (putRow (Zq Za) (Sort.ahead w n) b off d) os).heap[b]?=some (.cells (putCells (Zq Za) off d cur) ty (0,0)):=by
 have hg:b<w.heap.size:=(ZE.1 hb).1;rw[heap_grow_old _ _ (by simpa using hg)];simp[putRow,mapBlock,Sort.ahead,YM,hb,onCells]
def KV {cur:Array Value}{off:Nat}{ts:List Int}(h:off+ts.length<=cur.size):((putCells (Zq Za) off ts.toArray cur).toList.drop off).take ts.length=ts.map (Zq Za):=by
 apply List.ext_getElem?;intro j;by_cases hj:j<ts.length
 ·rw[XC hj,Zy,Z1];simp[putCells,hj,show off+j<cur.size by omega]
 ·rw[List.getElem?_take_eq_none Uc,List.getElem?_eq_none (by simp;omega)]
def Ol {w:World}{b n off:Nat}{os:Array Obj}(d:Array Int):Same (fun c=>c∉[b]) w (grow (putRow (Zq Za) (Sort.ahead w n) b off d) os):=by
 refine⟨rfl,rfl,rfl,by simp[grow,putRow,mapBlock,Sort.ahead],fun k hk hne=>?_⟩;rw[heap_grow_old _ _ (by simpa using hk)];have:b≠k:=fun e=>hne (by rw[e];simp)
 simp[putRow,mapBlock,Sort.ahead,YM,this]
def K9 {P:Program}{f:FuncId} 
 (h0:∀ (p:Option Addr) (cap:Nat) (w:World),Calls P f #[.slice p 0 cap] w fun e w'=>e=.returned (.tuple #[])/\w'=w)
 (h1:∀ (blk off cap:Nat) (zs:List Int) (w:World),Holds (Zq Za) w blk off zs.toArray->blk<w.heap.size->zs.length<4611686018427387904->
   Calls P f #[.slice (some ⟨blk,off,none⟩) zs.length cap] w fun e w'=>e=.returned (.tuple #[])/\∃ n os,w'=grow (putRow (Zq Za) (Sort.ahead w n) blk off (zs.mergeSort fun x y=>decide (x<=y)).toArray) os)
 (l:ab) (hp:Rw [tI] l/\l.length<=70368744177664):Ga P f [.one (.s 1 l)] [.s 1 (srtL l)] []:=by
 unfold srtL;obtain⟨hp,hn⟩:=hp;have e:=DD hp;generalize rr l=zs at e;subst e;intro w vs S hr hnd hU;simp only[bU,pw]at hr;obtain⟨v,_,S1,S2,rfl,hs,⟨rfl,rfl⟩,rfl⟩:=hr;simp only[Yb]at hnd hU ⊢;have hs0:=hs;simp only[bN]at hs;obtain⟨base,len,cap,rfl,rfl,h3,h4,h5⟩:=hs;have hz:(jd zs).length=zs.length:=cq;rw[hz]at hn;by_cases c:zs=[]
 ·subst c;refine(h0 base cap w).mono ?_;rintro _ _ ⟨rfl,rfl⟩;refine⟨_,[],S1,rfl,⟨[],rfl,⟨rfl,rfl⟩⟩,?_,hnd,fun b hb=>⟨hU b hb,.inr hb⟩,⟨rfl,rfl,rfl,Nat.le_refl _,fun _ _ _=>rfl⟩⟩;show ak _ [.s 1 (jd (List.mergeSort [] _))] ([_]++[]) S1;rw[List.mergeSort_nil];simp only[Yb,ak];exact⟨_,[],S1,[],rfl,hs0,⟨rfl,rfl⟩,by simp⟩
 ·have hl:0<zs.length:=List.length_pos_iff.2 c;rw[hz]at h3 h5;rcases h5 with⟨h5,_⟩|⟨b,off,cur,ty,fz,S',rfl,hb,h6,h7,rfl⟩;omega
  rw[XX]at h6 h7;obtain⟨q1,rfl⟩:=EQ h7;have hfz:=(hU b (by simp)).cells hb;subst hfz;have hbl:b<w.heap.size:=(ZE.1 hb).1;have hml:(zs.mergeSort fun x y=>decide (x<=y)).length=zs.length:=List.length_mergeSort _;rw[hz];refine(h1 b off cap zs w (MH hb q1) hbl Uc).mono ?_;rintro _ _ ⟨rfl,n,os,rfl⟩;have hb':=MD (n:=n) (off:=off) (os:=os) (zs.mergeSort fun x y=>decide (x<=y)).toArray hb;refine⟨_,[],[b],rfl,⟨[],rfl,⟨rfl,rfl⟩⟩,?_,hnd,fun k hk=>⟨?_,.inr hk⟩,Ol _⟩
  ·show ak _ [.s 1 _] ([_]++[]) [b];simp only[Yb,ak];refine⟨_,[],[b],[],rfl,?_,⟨rfl,rfl⟩,by simp⟩;simp only[bN];refine⟨_,_,_,rfl,?_,h3,h4,.inr ⟨b,off,_,ty,(0,0),[],rfl,hb',?_,?_,rfl⟩⟩
   ·rw[cq,hml]
   ·rw[XX];simp[putCells];omega
   ·have k:=KV (cur:=cur) (off:=off) (ts:=zs.mergeSort fun x y=>decide (x<=y)) Uc;rw[hml]at k;rw[XX,k];exact Mp
  ·simp at hk;subst hk;exact .inl ⟨_,_,hb'⟩
end Go.V