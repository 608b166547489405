/- Contracts. -/
import Derived.Test.YtcbcfelbafccpaaGreatXFnw
set_option linter.all false
open Go
open And renaming intro->Zc
open IntKind renaming i64->Za
open True renaming intro->Zd
namespace Go.V
open Go Go.Proofs
set_option maxRecDepth 1000000
set_option maxHeartbeats 8000000
def kT:EN:=fun F=>fun
 |[.one (.s 1 cs)]=>some (fun _=>Rw [tU] cs/\cs.length<=1048576,[.ro (.s 1 cs),.own (.i 0),.own (.i (F.l01h cs))])
 |_=>none
def wN:en 15 kT:=by
 intro _ _ _ h hp;dsimp only[kT,F0]at h;split at h<;>cases h
 rename_i cs;obtain⟨hw,hl⟩:=hp;refine OR nB tw mixed 32 _ [68] [.tmp 2] Tryz.func15 rfl rfl rfl rfl rfl ?_;intro O r F hO hr hF;cbv
 repeat' first|apply Zc|(apply cN<;>intro hb<;>cbv)|(refine⟨[0,3,4],[],Int×Int,fun s_=>match s_ with|(i,h)=>[.reg 4 (.j i),.reg 3 (.j h)],fun s_=>match s_ with|(i,h)=>0<=i/\i<=(cs.length:Int)/\i<=4000/\h=sY cs i.toNat,fun s_=>match s_ with|(i,h)=>cs.length-i.toNat,⟨(0,O.ar .add Za 98801 (O.zi (O.ln cs))),?_,?_⟩,?_⟩;rotate_left;(focus (cbv;done));intro s_ hi;obtain⟨i,h⟩:=s_;replace hi:0<=i/\i<=(cs.length:Int)/\i<=4000/\h=sY cs i.toNat:=hi;obtain⟨i0,i1,i2,i3⟩:=hi;cbv)|(refine ai (O.ar .add Za i 1,O.ar .and Za (O.ar .add Za (O.ar .add Za (O.ar .mul Za h 131) (O.wr Za (O.gi cs i 0))) 7) 1073741823) ?_ ?_ ?_;focus (cbv;done))
 all_goals(subst hO hr hF;(try simp only[nc]at*);(try simp only[am,SS,sa,az]at*);(try rw[di Uc Uc]))
 all_goals first
  | (show(_:List H)=_
     first
      |exact rO rfl (i3.trans (G7 i0 i1 i2 Uc))
      |done)
  |omega
  |exact ga
  |exact Int.natCast_nonneg _
  |exact(by rw[i3];exact(J3 i0).symm)
  |exact rfl
  |exact Zd
  |done
def j9:EP:=fun F=>fun
 |[.mp [.ro (.s 1 cs),.own (.v (.int Za i)),.own (.v (.int Za h))]]=>some (fun _=>Rw [tU] cs/\cs.length<=1048576/\0<=i/\i<=cs.length,[[.ro (.s 1 cs),.own (.i (F.bI cs i)),.own (.i (F.bH h))]],[.j (F.bX cs i h)])
 |_=>none
def uU:ep 53 j9:=by
 intro _ _ _ _ h hp;dsimp only[j9,F0]at h;split at h<;>cases h
 rename_i cs i h;obtain⟨hw,hl,h0,h1⟩:=hp;refine pb nB Tryz.func53 ?_
 intro O r os F hO hr hos hF;cbv
 repeat' first|apply Zc|(apply cN<;>intro hb<;>cbv)
 all_goals((try subst hos);subst hO hr hF;(try simp only[nc]at*);(try simp only[am,SS,sa,az]at*);(try rw[di Uc Uc]))
 all_goals first
  | (show(_:List DV)=_
     first
      |(have q:=Ld (cs:=cs) (i:=i) (h:=h) Ud;exact cg q.2.symm)
      |(have q:=QS (cs:=cs) (i:=i) (h:=h) Uc;exact cg q.2.symm)
      |done)
  | (show(_:List H)=_
     first
      |(have q:=Ld (cs:=cs) (i:=i) (h:=h) Ud;exact rO q.1.symm rfl)
      |(have q:=QS (cs:=cs) (i:=i) (h:=h) Uc;exact rO q.1.symm rfl)
      |done)
  |omega
  |(show ay _ _=true;kernel_rfl)
  |exact ga
  |exact Zd
  |done
abbrev Dw1:dq:={
 Φ:=wC
 F0:=F0
 pt:=fun F f=>match f with|53=>some (j9 F)|_=>none
 hp:=(by
  intro f mk h;dsimp only at h;split at h<;>cases h
  exact uU)}
def jD:EP:=fun F=>fun
 |[.mp [.ro (.s 1 cs),.own (.v (.int Za i)),.own (.v (.int Za h))],.one (.v (.int Za n))]=>some (fun _=>Rw [tU] cs/\cs.length<=1048576/\0<=i/\i<=cs.length,[[.ro (.s 1 cs),.own (.i (F.wI cs i n)),.own (.i (F.wH h n))]],[.j (F.wX cs i h n)])
 |_=>none
def tX:ep 16 jD:=by
 intro _ _ _ _ h hp;dsimp only[jD,F0]at h;split at h<;>cases h
 rename_i cs i h n;obtain⟨hw,hl,h0,h1⟩:=hp;have q1:=uE (cs:=cs) h0 h1;have q2:=uE (cs:=cs) q1.1 q1.2;have q3:=uE (cs:=cs) q2.1 q2.2;refine pb Dw1 Tryz.func16 ?_
 intro O r os F hO hr hos hF;cbv
 repeat' first|apply Zc|(apply cN<;>intro hb<;>cbv)
 all_goals((try subst hos);subst hO hr hF;(try simp only[nc]at*);(try simp only[am,SS,sa,az]at*))
 all_goals first
  | (show(_:List DV)=_
     first
      |(have q:=w_0 (cs:=cs) (i:=i) (h:=h) (n:=n) Ud;exact cg q.2.2.symm)
      |(have q:=w_1 (cs:=cs) (i:=i) (h:=h) (n:=n) Ud Ud;exact cg q.2.2.symm)
      |(have q:=w_4 (cs:=cs) (i:=i) (h:=h) (n:=n) Ud;exact cg q.2.2.symm)
      |done)
  | (show(_:List H)=_
     first
      |(have q:=w_0 (cs:=cs) (i:=i) (h:=h) (n:=n) Ud;exact rO q.1.symm q.2.1.symm)
      |(have q:=w_1 (cs:=cs) (i:=i) (h:=h) (n:=n) Ud Ud;exact rO q.1.symm q.2.1.symm)
      |(have q:=w_4 (cs:=cs) (i:=i) (h:=h) (n:=n) Ud;exact rO q.1.symm q.2.1.symm)
      |done)
  |omega
  |exact⟨hw,hl,Uc,Uc⟩
  |(show ay _ _=true;kernel_rfl)
  |exact ga
  |exact Zd
  |done
abbrev Dw2:dq:={
 Φ:=wC
 F0:=F0
 pt:=fun F f=>match f with|16=>some (jD F)|_=>none
 hp:=(by
  intro f mk h;dsimp only at h;split at h<;>cases h
  exact tX)
 nt:=fun F f=>match f with|15=>some (kT F)|_=>none
 hn:=(by
  intro f mk h;dsimp only at h;split at h<;>cases h
  exact wN)}
def gS:EC:=fun F=>fun
 |[.one (.s 1 cs)]=>some (fun _=>Rw [tU] cs/\cs.length<=1048576,[.one (.s 1 (F.dpl cs))])
 |_=>none
def qa:ec 5 gS:=by
 intro _ _ _ h hp;dsimp only[gS,F0]at h;split at h<;>cases h
 rename_i cs;obtain⟨hw,hl⟩:=hp;refine cb Dw2 Tryz.func5 ?_
 intro O r F hO hr hF;cbv
 repeat' first|apply Zc|(apply cN<;>intro hb<;>cbv)|(refine⟨[3,4,5],[4,7],Int×Int×Int×af,fun s_=>match s_ with|(i,a,b,o)=>[.reg 5 (.j i),.reg 4 (.one (.vw 4 0 0 0 (O.ln o))),.leaf 4 0 ⟨0,0,none,.own (.s 1 o)⟩,.leaf 7 1 ⟨0,0,none,.own (.i a)⟩,.leaf 7 2 ⟨0,0,none,.own (.i b)⟩],fun s_=>match s_ with|(i,a,b,o)=>0<=i/\i<=12/\(a,b,o)=Am cs i.toNat,fun s_=>match s_ with|(i,a,b,o)=>12-i.toNat,⟨(0,0,F.l01h cs,[]),?_,?_⟩,?_⟩;rotate_left;(focus (cbv;done));intro s_ hi;obtain⟨i,a,b,o⟩:=s_;replace hi:0<=i/\i<=12/\(a,b,o)=Am cs i.toNat:=hi;obtain⟨i0,i1,i2⟩:=hi;cbv)|(refine ai (O.ar .add Za i 1,F.wI cs a 10000,F.wH b 10000,O.cat o (O.sub [[.i (F.wX cs a b 10000)]] 0 (O.ln [[.i (F.wX cs a b 10000)]]))) ?_ ?_ ?_;focus (cbv;done))
 all_goals(subst hO hr hF;(try simp only[nc]at*);(try simp only[am,SS,sa,az]at*);(try rw[di Uc Uc]);(try(have hok:=DC (cs:=cs) i.toNat;rw[<-i2]at hok;have hok1:0<=a:=hok.1;have hok2:a<=(cs.length:Int):=hok.2.1;have hok3:o.length=i.toNat:=hok.2.2.1)))
 all_goals first
  | (show(_:List DV)=_
     first
      |exact yT (by rw[show i.toNat=12 by omega]at i2;exact congrArg (·.2.2) i2)
      |done)
  |omega
  |exact⟨hw,hl⟩
  |exact⟨hw,hl,Uc,Uc⟩
  |exact⟨Zd,Zd⟩
  | (show _=Am _ _
     first
      |exact rfl
      |(rw[Ru i0, <-i2];exact rfl)
      |done)
  |(show ay _ _=true;kernel_rfl)
  |exact ga
  |exact scal_one
  |(simp only[List.length_nil,List.length_cons];omega)
  |exact Zd
  |done
end Go.V