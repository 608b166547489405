/- Contracts. -/
import Derived.Test.YtpldpilhgjpkjaaGreatZFnv
set_option linter.all false
open Go
open And renaming intro->Zc
open IntKind renaming i64->Za
open True renaming intro->Zd
noncomputable section
namespace Go.V
open Go Go.Proofs
set_option maxRecDepth 1000000
set_option maxHeartbeats 8000000
def mM:EN:=fun F=>fun
 |[.one (.s 1 cs)]=>some (fun _=>Rw [tU] cs/\cs.length<=1048576,[.ro (.s 1 cs),.own (.i 0),.own (.i (F.l01h cs))])
 |_=>none
def zE:en 29 mM:=by
 intro _ _ _ h hp;dsimp only[mM,F0]at h;split at h<;>cases h
 rename_i cs;obtain⟨hw,hl⟩:=hp;refine aaG nB qU mixed 32 _ [97] [.tmp 2] Tryz.func29 rfl rfl rfl rfl rfl ?_;intro O r F hO hr hF;cbv
 repeat' first|apply Zc|(apply cN<;>intro hb<;>cbv)|(refine⟨[0,3,4],[],Int×Int,fun s_=>match s_ with|(i,h)=>[.reg 4 (.j i),.reg 3 (.j h)],fun s_=>match s_ with|(i,h)=>0<=i/\i<=(cs.length:Int)/\i<=4000/\h=vm cs i.toNat,fun s_=>match s_ with|(i,h)=>cs.length-i.toNat,⟨(0,O.ar .add Za 98801 (O.zi (O.ln cs))),?_,?_⟩,?_⟩;rotate_left;(focus (cbv;done));intro s_ hi;obtain⟨i,h⟩:=s_;replace hi:0<=i/\i<=(cs.length:Int)/\i<=4000/\h=vm cs i.toNat:=hi;obtain⟨i0,i1,i2,i3⟩:=hi;cbv)|(refine ah (O.ar .add Za i 1,O.ar .and Za (O.ar .add Za (O.ar .add Za (O.ar .mul Za h 131) (O.wr Za (O.gi cs i 0))) 7) 1073741823) ?_ ?_ ?_;focus (cbv;done))
 all_goals(subst hO hr hF;(try simp only[nc]at*);(try simp only[aj,SS,sa,az]at*);(try rw[db Uc Uc]))
 all_goals first
  | (show(_:List H)=_
     first
      |exact ug rfl (i3.trans (Kw i0 i1 i2 Uc))
      |done)
  |omega
  |exact j4
  |exact(by rw[i3];exact(NM i0).symm)
  |exact rfl
  |done
def lM:EP:=fun F=>fun
 |[.mp [.ro (.s 1 cs),.own (.v (.int Za i)),.own (.v (.int Za h))]]=>some (fun _=>Rw [tU] cs/\cs.length<=1048576/\0<=i/\i<=cs.length,[[.ro (.s 1 cs),.own (.i (F.bI cs i)),.own (.i (F.bH h))]],[.j (F.bX cs i h)])
 |_=>none
def xA:ep 130 lM:=by
 intro _ _ _ _ h hp;dsimp only[lM,F0]at h;split at h<;>cases h
 rename_i cs i h;obtain⟨hw,hl,h0,h1⟩:=hp;refine pb nB Tryz.func130 ?_
 intro O r os F hO hr hos hF;cbv
 repeat' first|apply Zc|(apply cN<;>intro hb<;>cbv)
 all_goals((try subst hos);subst hO hr hF;(try simp only[nc]at*);(try simp only[aj,SS,sa,az]at*);(try rw[db Uc Uc]))
 all_goals first
  | (show(_:List DV)=_
     first
      |(have q:=Pu (cs:=cs) (i:=i) (h:=h) Ud;exact cd q.2.symm)
      |(have q:=ab0 (cs:=cs) (i:=i) (h:=h) Uc;exact cd q.2.symm)
      |done)
  | (show(_:List H)=_
     first
      |(have q:=Pu (cs:=cs) (i:=i) (h:=h) Ud;exact ug q.1.symm rfl)
      |(have q:=ab0 (cs:=cs) (i:=i) (h:=h) Uc;exact ug q.1.symm rfl)
      |done)
  |omega
  |(show bz _ _=true;kernel_rfl)
  |exact j4
  |done
abbrev Dw1:di:={
 Φ:=tH
 F0:=F0
 pt:=fun F f=>match f with|130=>some (lM F)|_=>none
 hp:=(by
  intro f mk h;dsimp only at h;split at h<;>cases h
  exact xA)}
def kG:EP:=fun F=>fun
 |[.mp [.ro (.s 1 cs),.own (.v (.int Za i)),.own (.v (.int Za h))],.one (.v (.int Za n))]=>some (fun _=>Rw [tU] cs/\cs.length<=1048576/\0<=i/\i<=cs.length,[[.ro (.s 1 cs),.own (.i (F.wI cs i n)),.own (.i (F.wH h n))]],[.j (F.wX cs i h n)])
 |_=>none
def v9:ep 30 kG:=by
 intro _ _ _ _ h hp;dsimp only[kG,F0]at h;split at h<;>cases h
 rename_i cs i h n;obtain⟨hw,hl,h0,h1⟩:=hp;have q1:=w9 (cs:=cs) h0 h1;have q2:=w9 (cs:=cs) q1.1 q1.2;have q3:=w9 (cs:=cs) q2.1 q2.2;refine pb Dw1 Tryz.func30 ?_
 intro O r os F hO hr hos hF;cbv
 repeat' first|apply Zc|(apply cN<;>intro hb<;>cbv)
 all_goals((try subst hos);subst hO hr hF;(try simp only[nc]at*);(try simp only[aj,SS,sa,az]at*))
 all_goals first
  | (show(_:List DV)=_
     first
      |(have q:=w_0 (cs:=cs) (i:=i) (h:=h) (n:=n) Ud;exact cd q.2.2.symm)
      |(have q:=w_1 (cs:=cs) (i:=i) (h:=h) (n:=n) Ud Ud;exact cd q.2.2.symm)
      |(have q:=w_4 (cs:=cs) (i:=i) (h:=h) (n:=n) Ud;exact cd q.2.2.symm)
      |done)
  | (show(_:List H)=_
     first
      |(have q:=w_0 (cs:=cs) (i:=i) (h:=h) (n:=n) Ud;exact ug q.1.symm q.2.1.symm)
      |(have q:=w_1 (cs:=cs) (i:=i) (h:=h) (n:=n) Ud Ud;exact ug q.1.symm q.2.1.symm)
      |(have q:=w_4 (cs:=cs) (i:=i) (h:=h) (n:=n) Ud;exact ug q.1.symm q.2.1.symm)
      |done)
  |omega
  |exact⟨hw,hl,Uc,Uc⟩
  |done
abbrev Dw2:di:={
 Φ:=tH
 F0:=F0
 pt:=fun F f=>match f with|30=>some (kG F)|_=>none
 hp:=(by
  intro f mk h;dsimp only at h;split at h<;>cases h
  exact v9)
 nt:=fun F f=>match f with|29=>some (mM F)|_=>none
 hn:=(by
  intro f mk h;dsimp only at h;split at h<;>cases h
  exact zE)}
def iX:EC:=fun F=>fun
 |[.one (.s 1 cs)]=>some (fun _=>Rw [tU] cs/\cs.length<=1048576,[.one (.s 1 (F.dpl cs))])
 |_=>none
def sC:ec 9 iX:=by
 intro _ _ _ h hp;dsimp only[iX,F0]at h;split at h<;>cases h
 rename_i cs;obtain⟨hw,hl⟩:=hp;refine cb Dw2 Tryz.func9 ?_
 intro O r F hO hr hF;cbv
 repeat' first|apply Zc|(apply cN<;>intro hb<;>cbv)|(refine⟨[3,4,5],[4,7],Int×Int×Int×af,fun s_=>match s_ with|(i,a,b,o)=>[.reg 5 (.j i),.reg 4 (.one (.vw 4 0 0 0 (O.ln o))),.leaf 4 0 ⟨0,0,none,.own (.s 1 o)⟩,.leaf 7 1 ⟨0,0,none,.own (.i a)⟩,.leaf 7 2 ⟨0,0,none,.own (.i b)⟩],fun s_=>match s_ with|(i,a,b,o)=>0<=i/\i<=12/\(a,b,o)=CZ cs i.toNat,fun s_=>match s_ with|(i,a,b,o)=>12-i.toNat,⟨(0,0,F.l01h cs,[]),?_,?_⟩,?_⟩;rotate_left;(focus (cbv;done));intro s_ hi;obtain⟨i,a,b,o⟩:=s_;replace hi:0<=i/\i<=12/\(a,b,o)=CZ cs i.toNat:=hi;obtain⟨i0,i1,i2⟩:=hi;cbv)|(refine ah (O.ar .add Za i 1,F.wI cs a 10000,F.wH b 10000,O.cat o (O.sub [[.i (F.wX cs a b 10000)]] 0 (O.ln [[.i (F.wX cs a b 10000)]]))) ?_ ?_ ?_;focus (cbv;done))
 all_goals(subst hO hr hF;(try simp only[nc]at*);(try simp only[aj,SS,sa,az]at*);(try rw[db Uc Uc]);(try(have hok:=GK (cs:=cs) i.toNat;rw[<-i2]at hok;have hok1:0<=a:=hok.1;have hok2:a<=(cs.length:Int):=hok.2.1;have hok3:o.length=i.toNat:=hok.2.2.1)))
 all_goals first
  | (show(_:List DV)=_
     first
      |exact BL (by rw[show i.toNat=12 by omega]at i2;exact congrArg (·.2.2) i2)
      |done)
  |omega
  |exact⟨hw,hl⟩
  |exact⟨hw,hl,Uc,Uc⟩
  |exact⟨Zd,Zd⟩
  | (show _=CZ _ _
     first
      |exact rfl
      |(rw[acy i0, <-i2];exact rfl)
      |done)
  |(simp only[List.length_nil,List.length_cons];omega)
  |done
end Go.V