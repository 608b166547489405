/-
  slices.Sort at ints, as a contract of a function that writes into its argument's row.
-/
import Derived.Test.YtpldpilhgjpkjaaGreatZHA
import Derived.Sort.OwnSortedInts
import Derived.Shelf.Sort.Plain
import Derived.Ground.Names2Prog
import Derived.Shelf.Slices.In.SortNone
set_option linter.all false
open Go
open IntKind renaming i64->Za
open List renaming map_map->XD,map_id->Vu,map_nil->YU,map_cons->ZZ,getElem?_take_of_lt->Y5,getElem?_drop->Zu,append_nil->Z4
open Nat renaming mul_one->Wa
open Value renaming int->Zn
open _root_.Array renaming getElem?_toList->ZY,getElem?_eq_some_iff->ZE,getElem?_modify->YV
namespace Go.V
open Go Go.Sort Go.Proofs
def Qa:aT->Int
 |[.v (.int Za x)]=>x
 |_=>0
def pE (l:af):List Int:=l.map Qa
def srtL (l:af):af:=lY ((pE l).mergeSort fun x y=>decide (x<=y))
def JH {e:aT}(h:bV [tI] e):e=[.i (Qa e)]:=by
 unfold bV at h
 match e,h with
 | [.v (.int k x)],h=>
   obtain⟨⟨h1,_⟩,_⟩:=h;cases h1;rfl
def Av {l:af}(h:Rw [tI] l):l=lY (pE l):=by
 unfold lY pE;rw[XD]
 conv=>lhs;rw[<-Vu l]
 apply List.map_congr_left;intro e he;exact JH (h.2 e he)
def Fe {l:List Int}:pE (lY l)=l:=by
 unfold lY pE;rw[XD]
 conv=>rhs;rw[<-Vu l]
 rfl
def Bf {w:World}:∀ {zs:List Int} {vs:List Value} {S:List Nat},bN w 1 (lY zs) vs S->vs=zs.map (Zn Za)/\S=[]
 | [],vs,S,h=>by
   simp only[lY,YU,bN]at h;exact h
 | z::zs,vs,S,h=>by
   simp only[lY,ZZ,bN]at h;obtain⟨v1,v2,S1,S2,rfl,_,h1,h2,rfl⟩:=h;simp only[ai,bT]at h1;obtain⟨v,_,T1,T2,rfl,⟨rfl,_,rfl⟩,⟨rfl,rfl⟩,rfl⟩:=h1;obtain⟨rfl,rfl⟩:=Bf h2;exact⟨rfl,rfl⟩
def JQ {w:World}:∀ {zs:List Int},bN w 1 (lY zs) (zs.map (Zn Za)) []
 |[]=>by simp only[lY,YU,bN];exact⟨trivial,trivial⟩
 | z::zs=>by
   simp only[lY,ZZ,bN];refine⟨[.int Za z],zs.map (Zn Za),[],[],rfl,rfl,?_,JQ,rfl⟩;simp only[ai,bT];exact⟨_,[],[],[],rfl,⟨rfl,rfl,rfl⟩,⟨rfl,rfl⟩,rfl⟩
def Kd {w:World}{b off:Nat}{cur:Array Value}{ty:TypeId}{zs:List Int}(hb:w.heap[b]?=some (.cells cur ty (0,0)))(ht:(cur.toList.drop off).take zs.length=zs.map (Zn Za)):Holds (Zn Za) w b off zs.toArray:=by
 intro j hj;have hj':j<zs.length:=by simpa using hj
 refine⟨?_,by simp[World.frozen?,hb]⟩;have h1:((cur.toList.drop off).take zs.length)[j]?=(zs.map (Zn Za))[j]?:=by rw[ht]
 rw[Y5 hj',Zu]at h1;simp only[World.cell?,hb];simp only[Option.isSome_none,Bool.false_eq_true,if_false];rw[<-ZY,h1];simp[hj']
def J9 {w:World}{b n off:Nat}{os:Array Obj}{cur:Array Value}{ty:TypeId}(d:Array Int)(hb:w.heap[b]?=some (.cells cur ty (0,0))):
 (grow (putRow (Zn Za) (Sort.ahead w n) b off d) os).heap[b]?=some (.cells (putCells (Zn Za) off d cur) ty (0,0)):=by
 have hg:b<w.heap.size:=(ZE.1 hb).1;rw[heap_grow_old _ _ (by simpa using hg)];simp[putRow,mapBlock,Sort.ahead,YV,hb,onCells]
def HZ {cur:Array Value}{off:Nat}{ts:List Int}(h:off+ts.length<=cur.size):((putCells (Zn Za) off ts.toArray cur).toList.drop off).take ts.length=ts.map (Zn Za):=by
 apply List.ext_getElem?;intro j;by_cases hj:j<ts.length
 ·rw[Y5 hj,Zu,ZY];simp[putCells,hj,show off+j<cur.size by omega]
 ·rw[List.getElem?_take_eq_none Uc,List.getElem?_eq_none (by simp;omega)]
def LE {w:World}{b n off:Nat}{os:Array Obj}(d:Array Int):Same (fun c=>c∉[b]) w (grow (putRow (Zn Za) (Sort.ahead w n) b off d) os):=by
 refine⟨rfl,rfl,rfl,by simp[grow,putRow,mapBlock,Sort.ahead],fun k hk hne=>?_⟩;rw[heap_grow_old _ _ (by simpa using hk)];have:b≠k:=fun e=>hne (by rw[e];simp)
 simp[putRow,mapBlock,Sort.ahead,YV,this]
def Im {P:Program}{f:FuncId} 
 (h0:∀ (p:Option Addr) (cap:Nat) (w:World),Calls P f #[.slice p 0 cap] w fun e w'=>e=.returned (.tuple #[])/\w'=w)
 (h1:∀ (blk off cap:Nat) (zs:List Int) (w:World),Holds (Zn Za) w blk off zs.toArray->blk<w.heap.size->zs.length<4611686018427387904->
   Calls P f #[.slice (some ⟨blk,off,none⟩) zs.length cap] w fun e w'=>e=.returned (.tuple #[])/\∃ n os,w'=grow (putRow (Zn Za) (Sort.ahead w n) blk off (zs.mergeSort fun x y=>decide (x<=y)).toArray) os)
 (l:af) (hp:Rw [tI] l/\l.length<=70368744177664):HU P f [.one (.s 1 l)] [.s 1 (srtL l)] []:=by
 unfold srtL;obtain⟨hp,hn⟩:=hp;have e:=Av hp;generalize pE l=zs at e;subst e;intro w vs S hr hnd hU;simp only[b9,iq]at hr;obtain⟨v,_,S1,S2,rfl,hs,⟨rfl,rfl⟩,rfl⟩:=hr;simp only[Z4]at hnd hU ⊢;have hs0:=hs;simp only[bT]at hs;obtain⟨base,len,cap,rfl,rfl,h3,h4,h5⟩:=hs;have hz:(lY zs).length=zs.length:=kT;rw[hz]at hn;by_cases c:zs=[]
 ·subst c;refine(h0 base cap w).mono ?_;rintro _ _ ⟨rfl,rfl⟩;refine⟨_,[],S1,rfl,⟨[],rfl,⟨rfl,rfl⟩⟩,?_,hnd,fun b hb=>⟨hU b hb,.inr hb⟩,⟨rfl,rfl,rfl,Nat.le_refl _,fun _ _ _=>rfl⟩⟩;show ai _ [.s 1 (lY (List.mergeSort [] _))] ([_]++[]) S1;rw[List.mergeSort_nil];simp only[Z4,ai];exact⟨_,[],S1,[],rfl,hs0,⟨rfl,rfl⟩,by simp⟩
 ·have hl:0<zs.length:=List.length_pos_iff.2 c;rw[hz]at h3 h5;rcases h5 with⟨h5,_⟩|⟨b,off,cur,ty,fz,S',rfl,hb,h6,h7,rfl⟩;omega
  rw[Wa]at h6 h7;obtain⟨q1,rfl⟩:=Bf h7;have hfz:=(hU b (by simp)).cells hb;subst hfz;have hbl:b<w.heap.size:=(ZE.1 hb).1;have hml:(zs.mergeSort fun x y=>decide (x<=y)).length=zs.length:=List.length_mergeSort _;rw[hz];refine(h1 b off cap zs w (Kd hb q1) hbl Uc).mono ?_;rintro _ _ ⟨rfl,n,os,rfl⟩;have hb':=J9 (n:=n) (off:=off) (os:=os) (zs.mergeSort fun x y=>decide (x<=y)).toArray hb;refine⟨_,[],[b],rfl,⟨[],rfl,⟨rfl,rfl⟩⟩,?_,hnd,fun k hk=>⟨?_,.inr hk⟩,LE _⟩
  ·show ai _ [.s 1 _] ([_]++[]) [b];simp only[Z4,ai];refine⟨_,[],[b],[],rfl,?_,⟨rfl,rfl⟩,by simp⟩;simp only[bT];refine⟨_,_,_,rfl,?_,h3,h4,.inr ⟨b,off,_,ty,(0,0),[],rfl,hb',?_,?_,rfl⟩⟩
   ·rw[kT,hml]
   ·rw[Wa];simp[putCells];omega
   ·have k:=HZ (cur:=cur) (off:=off) (ts:=zs.mergeSort fun x y=>decide (x<=y)) Uc;rw[hml]at k;rw[Wa,k];exact JQ
  ·simp at hk;subst hk;exact .inl ⟨_,_,hb'⟩
end Go.V