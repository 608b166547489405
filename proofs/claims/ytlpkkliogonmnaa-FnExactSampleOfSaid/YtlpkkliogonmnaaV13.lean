/-
  The value-level condition generator, part 13: append.
-/
import Derived.Test.YtlpkkliogonmnaaV12
set_option linter.all false

namespace Go.V

theorem scalRec_nil {w : World} : ∀ {ls : Rec} {vs : List Value} {S : List Nat}, scalRec ls → RdRec w ls vs S → S = []
  | [], vs, S, _, h => by simp only [RdRec] at h; exact h.2
  | .v y :: ls, vs, S, hs, h => by
    simp only [RdRec] at h
    obtain ⟨v, vs', S1, S2, rfl, h1, h2, rfl⟩ := h
    simp only [RdL] at h1
    have := scalRec_nil (ls := ls) hs h2
    subst this
    simp [h1.2.2]
  | .g :: ls, vs, S, hs, h => hs.elim
  | .s _ _ :: ls, vs, S, hs, h => hs.elim
theorem scalRecs_nil {w : World} {sz : Nat} : ∀ {es : List Rec} {vs : List Value} {S : List Nat}, scalRecs es → RdEs w sz es vs S → S = []
  | [], vs, S, _, h => by simp only [RdEs] at h; exact h.2
  | e :: es, vs, S, hs, h => by
    simp only [RdEs] at h
    obtain ⟨v1, v2, S1, S2, rfl, hl, h1, h2, rfl⟩ := h
    have q1 := scalRec_nil hs.1 h1
    have q2 := scalRecs_nil hs.2 h2
    subst q1 q2
    rfl

theorem RdRec.ones {w : World} : ∀ {ls : Rec} {vs : List Value} {S : List Nat}, RdRec w ls vs S → ∀ u ∈ vs, u.oneCell' = true
  | [], vs, S, h, u, hu => by simp only [RdRec] at h; rw [h.1] at hu; cases hu
  | l :: ls, vs, S, h, u, hu => by
    simp only [RdRec] at h
    obtain ⟨v, vs', S1, S2, rfl, h1, h2, rfl⟩ := h
    rcases List.mem_cons.1 hu with rfl | hu
    · exact RdL.one h1
    · exact RdRec.ones h2 u hu
theorem RdEs.ones {w : World} {sz : Nat} : ∀ {es : List Rec} {vs : List Value} {S : List Nat}, RdEs w sz es vs S → ∀ u ∈ vs, u.oneCell' = true
  | [], vs, S, h, u, hu => by simp only [RdEs] at h; rw [h.1] at hu; cases hu
  | e :: es, vs, S, h, u, hu => by
    simp only [RdEs] at h
    obtain ⟨v1, v2, S1, S2, rfl, hl, h1, h2, rfl⟩ := h
    rcases List.mem_append.1 hu with hu | hu
    · exact RdRec.ones h1 u hu
    · exact RdEs.ones h2 u hu

section
variable {P : Program} {o : Oper} {cx : Cx} {G : Gh} {g : Gm} {a : Act} {w : World}

/-- What an append copies. -/
structure Src (g : Gm) (G : Gh) (w : World) (sz : Nat) (v : Value) (es : List Rec) (src : List (Nat × Nat)) (base : Option Addr) (m c : Nat) (news : List Value) (S : List Nat) : Prop where
  val : v = .slice base m c
  len : m = es.length
  cells : 0 < m → ∃ b off, base = some ⟨b, off, none⟩ ∧ ∀ j u, news[j]? = some u → w.cell? ⟨b, off + j, none⟩ = some u
  rd : RdEs w sz es news S
  nodup : S.Nodup
  tok : ∀ b ∈ S, Unf w b ∧ ∃ r j, (r, j) ∈ src ∧ G.ow b = some (.leaf r j)

theorem run_append_base {P : Program} (base : Option Addr) (w : World) (t ty e : TypeId) (i : TypeInfo) (z : Value) (ht : P.underlying t = some (.slice e)) (hi : P.info? e = some i) (hz : i.zero = some z)
    (a : Addr) (n c : Nat) (news : List Value) (hl : news.length = n * i.size) (hnews : ∀ j v, news[j]? = some v → w.cell? (a.add j) = some v)
    (h0 : 0 < n) (h63 : (n : Int) ≤ 9223372036854775807) (h48 : n * i.bytes ≤ 140737488355328) :
    (Builtin.append_ #[t, t] ty #[.slice base 0 0, .slice (some a) n c]).run P w =
      .ok (.slice (some ⟨w.heap.size, 0, none⟩) n (grownCap w n 0 e)) (w.drew.alloc (.cells (news.toArray ++ Builtin.zeroCells z.cells (grownCap w n 0 e - n)) e)) := by
  cases base with
  | none => exact run_append_nil w t ty e i z ht hi hz a n c news hl hnews h0 h63 (by omega)
  | some b =>
    have := run_append_grow (P := P) w t ty e i z ht hi hz b 0 0 [] (by simp) (by simp) a n c news hl hnews (by omega) (by simpa using h63) (by
      rw [Nat.zero_add, nextslicecap_zero h0]; omega)
    simpa using this

theorem Src.of_view {sz lo m : Nat} {es : List Rec} {hv v : Value} {S : List Nat} (hr : RdL w (.s sz es) hv S) (hsc : scalRecs es) (hlo : lo + m ≤ es.length) (hw : ViewOf hv sz lo m v) :
    ∃ base c news, Src g G w sz v ((es.drop lo).take m) [] base m c news [] := by
  obtain ⟨base, len, cap, base', cap', g1, g2, g3, g4, g5, g6⟩ := hw
  simp only [RdL] at hr
  obtain ⟨base0, len0, cap0, q1, q2, q3, q4, q5⟩ := hr
  rw [g1] at q1; cases q1
  have hlen : ((es.drop lo).take m).length = m := by simp only [List.length_take, List.length_drop]; omega
  rcases q5 with ⟨e2, e3⟩ | ⟨b, off, cur, ty, fz, S', f1, f2, f3, f4, f5⟩
  · have hz : es.length = 0 := by omega
    have : m = 0 := by omega
    subst this
    exact ⟨base', cap', [], g2, hlen.symm, fun h => by omega, by simp [RdEs], List.nodup_nil, fun b hb => by cases hb⟩
  · have hS' := scalRecs_nil hsc f4
    subst hS'
    obtain ⟨S1, k1, k2⟩ := f4.sub lo m
    have hS1 : S1 = [] := by
      cases S1 with
      | nil => rfl
      | cons x xs => exact absurd (k2 x (by simp)) (by simp)
    subst hS1
    refine ⟨base', cap', _, g2, hlen.symm, fun hm => ?_, k1, List.nodup_nil, fun b hb => by cases hb⟩
    rcases g6 with ⟨r1, r2⟩ | ⟨b1, off1, off', r1, r2, r3, r4⟩
    · exfalso; omega
    · rw [r1] at f1; cases f1
      refine ⟨_, off', r2, fun j u hj => ?_⟩
      rw [hlen, List.getElem?_take] at hj
      split at hj
      · rw [List.getElem?_drop] at hj
        have := row_cells f2 hj
        rw [← this, r4 hm]; congr 2; omega
      · cases hj

theorem srcElems_sound (hS : SimG cx G g a w) {ti : TI} {x : A} {v : Value} (hx : AOk (gl g) G w x v) {α : Type} {k : List Rec → List (Nat × Nat) → Rd α} {ls : List Loc} {out : α} (h : (srcElems ti x k).Runs g ls out) :
    ∃ es src base m c news S ls', Src g G w ti.zero.length v es src base m c news S ∧ (k es src).Runs g ls' out := by
  unfold srcElems at h
  cases x with
  | nl =>
    have hv : v = .slice none 0 0 := hx
    exact ⟨[], [], none, 0, 0, [], [], ls, ⟨hv, rfl, fun h => by omega, by simp [RdEs], List.nodup_nil, fun b hb => by cases hb⟩, h⟩
  | ro sz es =>
    simp only at h
    split at h
    · rename_i hb
      simp only [Bool.and_eq_true, beq_iff_eq] at hb
      simp only [Rd.Runs] at h
      obtain ⟨S, h1, h2⟩ := hx
      obtain ⟨base, c, news, hsrc⟩ := Src.of_view (g := g) (G := G) (lo := 0) (m := es.length) h1 h.1 (by omega) (ViewOf.full h1)
      rw [← hb.1]
      exact ⟨_, _, base, _, c, news, [], ls, by simpa using hsrc, h.2⟩
    · simp [Rd.Runs] at h
  | vw r j ver lo m =>
    simp only at h
    obtain ⟨hv, ls2, q1, q2, h⟩ := rdH_sound h
    split at h
    · rename_i sz es hc
      split at h
      · rename_i hb
        simp only [Bool.and_eq_true, beq_iff_eq] at hb
        obtain ⟨h2, f1, f2, f3⟩ := hx
        rw [q1] at f1; cases f1
        obtain ⟨f4, f5⟩ := f3 hb.1 sz es hc
        have hok := hS.hok q1
        simp only [HOk, hc] at hok
        rw [← hb.2]
        split at h
        · simp only [Rd.Runs] at h
          obtain ⟨base, c, news, hsrc⟩ := Src.of_view (g := g) (G := G) hok.1 h.1 f4 f5
          exact ⟨_, _, base, _, c, news, [], ls2, hsrc, h.2⟩
        · simp only [Rd.Runs] at h
          obtain ⟨⟨h0, h1⟩, h⟩ := h
          obtain ⟨base, len, cap, base', cap', g1, g2, g3, g4, g5, g6⟩ := f5
          have hok' := hok.1
          simp only [RdL] at hok'
          obtain ⟨base0, len0, cap0, q1', q2', q3', q4', q5'⟩ := hok'
          rw [g1] at q1'; cases q1'
          have hvv := g5 h0 (by omega)
          rcases q5' with ⟨e2, e3⟩ | ⟨b, off, cur, ty, fz, S', f1', f2', f3', f4', f5'⟩
          · have hz : es = [] := List.eq_nil_of_length_eq_zero (by omega)
            subst hz
            exact ⟨[], _, base, len, cap, [], [], ls2, ⟨by rw [hvv, g1], by simpa using q2', fun h => by simp at q2'; omega, by simp [RdEs], List.nodup_nil, fun b hb => by cases hb⟩, h⟩
          · have hnd := hok.2.1
            rw [f5'] at hnd
            refine ⟨es, _, base, len, cap, _, S', ls2, ⟨by rw [hvv, g1], q2', fun _ => ⟨b, off, f1', fun j' u hj => row_cells f2' hj⟩, f4', (List.nodup_cons.1 hnd).2, fun b' hb' => ?_⟩, h⟩
            have := hok.2.2 b' (by rw [f5']; simp [hb'])
            exact ⟨this.2, r, j, by simp, this.1⟩
      · simp [Rd.Runs] at h
    · simp [Rd.Runs] at h
  | vn r j ver iv p lo m =>
    simp only at h
    obtain ⟨hv, ls2, q1, q2, h⟩ := rdH_sound h
    split at h
    · rename_i l hc
      split at h
      · rename_i hb
        simp only [Bool.and_eq_true] at hb
        cases hg : getR l p with
        | none => simp [hg, Rd.Runs] at h
        | some pr =>
          obtain ⟨rec, j0⟩ := pr
          simp only [hg] at h
          split at h
          · rename_i sz es hrec
            split at h
            · rename_i hsz
              simp only [beq_iff_eq] at hsz
              simp only [Rd.Runs] at h
              obtain ⟨h2, f1, f2, f2', fne, f3⟩ := hx
              rw [q1] at f1; cases f1
              obtain ⟨bb, oo, hvv, f4, f5, f6, f7⟩ := f3 hb.1 l rec j0 sz es hc hg hrec
              have hok := hS.hok q1
              simp only [HOk, hc] at hok
              obtain ⟨cur, ty, fz, base, Sa, S1, Sb, m1, m2, m3, m4, m5, m6, _⟩ := focus p l _ _ bb oo rec j0 hok.1 hok.2.1 f4 hg
              obtain ⟨_, Sx, _, v', _, k2, k3⟩ := m6.at j0 _ hrec
              have hvv' : v' = hvv := by
                have := row_cells m1 k2
                rw [← m4, f5] at this; exact (Option.some.inj this).symm
              subst hvv'
              obtain ⟨base', c, news, hsrc⟩ := Src.of_view (g := g) (G := G) k3 h.1 f6 f7
              rw [← hsz]
              exact ⟨_, _, base', _, c, news, [], ls2, hsrc, h.2⟩
            · simp [Rd.Runs] at h
          · simp [Rd.Runs] at h
      · simp [Rd.Runs] at h
    · simp [Rd.Runs] at h
  | _ => simp [Rd.Runs] at h

/-- A slice of the call's own, wherever its cells lie. -/
theorem SimG.newSlice (hS : SimG cx G g a w) {d : Nat} (hlt : d < cx.n) (hd : g (.meta_ d) = none) (w' : World) (hos : w'.os = w.os) (htape : w'.tape = w.tape) (hout : w'.output = w.output) (hsize : w.heap.size ≤ w'.heap.size)
    (hsame : ∀ b, b < w.heap.size → (∀ r j, G.ow b = some (.leaf r j) → ∃ h l, gl g r j = some h ∧ h.c = .own l) → w'.heap[b]? = w.heap[b]?)
    (sz : Nat) (es : List Rec) (v : Value) (S : List Nat) (hr : RdL w' (.s sz es) v S) (hnd : S.Nodup) (hf : ∀ b ∈ S, Unf w' b ∧ Free g G w b) :
    Sim cx (apps g (ownRow d sz es)) (a.put (some d) v) w' := by
  obtain ⟨G', k1, k2, _, _⟩ := hS.newRoot' hd false [⟨0, 0, none, .own (.s sz es)⟩] w' hos htape hout hsize hsame (fun _ => v) (fun _ => S)
    (by
      intro j h hj
      have hj0 : j = 0 := by
        cases j with
        | zero => rfl
        | succ j => simp at hj
      subst hj0
      simp at hj; subst hj
      exact ⟨hr, hnd, hf⟩)
    (fun j h hj => by cases j with
      | zero => simp at hj; subst hj; exact OrgOk.none
      | succ j => simp at hj)
    (by intro i j hi hj hij; simp at hi hj; omega) 0 0 (by simp)
  simp only [ownRow, apps]
  refine ⟨G', k1.put hlt ?_⟩
  simp only [ROk]
  have hg : gl ((W.root d false [⟨0, 0, none, .own (.s sz es)⟩]).app g) d 0 = some ⟨0, 0, none, .own (.s sz es)⟩ := by simp [gl, W.app]
  refine ⟨_, hg, Nat.le_refl _, fun _ sz' es' e => ?_⟩
  cases e
  rw [k2]
  exact ⟨by omega, ViewOf.full hr⟩

theorem run_append_room' (w : World) (t ty e : TypeId) (i : TypeInfo) (ht : P.underlying t = some (.slice e)) (hi : P.info? e = some i)
    (b off sLen sCap : Nat) (cur : Array Value) (bt : TypeId) (hg : w.heap[b]? = some (.cells cur bt (0, 0)))
    (ad : Addr) (m c : Nat) (news : List Value) (hl : news.length = m * i.size) (hnews : ∀ j u, news[j]? = some u → w.cell? (ad.add j) = some u) (h1 : ∀ u ∈ news, u.oneCell' = true)
    (hroom : sLen + m ≤ sCap) (hfit : off + sLen * i.size + news.length ≤ cur.size) :
    (Builtin.append_ #[t, t] ty #[.slice (some ⟨b, off, none⟩) sLen sCap, .slice (some ad) m c]).run P w =
      .ok (.slice (some ⟨b, off, none⟩) (sLen + m) sCap) (w.setRow b (cur.toList.take (off + sLen * i.size) ++ news ++ cur.toList.drop (off + sLen * i.size + news.length)).toArray) := by
  have hf := run_firstCells_some (P := P) w i.size m ad m c news hl hnews
  have hst := run_storeCells_at P b (off + sLen * i.size) bt news 0 cur w hg (by simpa using hfit) h1
  simp only [Nat.add_zero] at hst
  simp [Builtin.append_, run_underlying ht, sizeOf, typeInfo, hi, Builtin.lenOf, hroom, hf, add_lit, hst]

theorem run_append_zero (w : World) (t ty e : TypeId) (i : TypeInfo) (ht : P.underlying t = some (.slice e)) (hi : P.info? e = some i) (base base2 : Option Addr) (sLen sCap c : Nat) (hroom : sLen ≤ sCap) :
    (Builtin.append_ #[t, t] ty #[.slice base sLen sCap, .slice base2 0 c]).run P w = .ok (.slice base sLen sCap) w := by
  cases base <;> cases base2 <;> simp [Builtin.append_, run_underlying ht, sizeOf, typeInfo, hi, Builtin.lenOf, hroom, Builtin.firstCells, loadCells, loadCellsFrom, storeCells]

variable {ls : List Loc} {ws : List W} {K : Act → World → Prop} {Q : Exit → Act → World → Prop}

theorem run_append_op {t : TypeId} {s x : Operand} (ho : o.op = .call { callee := .builtin .append, args := #[s, x], argTypes := #[t, t] }) {v vx v' : Value} {w' : World} (hs : a.eval s = v) (hx : a.eval x = vx)
    (hr : (Builtin.append_ #[t, t] o.type #[v, vx]).run P w = .ok v' w') : (execOp a.eval o).run P w = .ok (.value v') w' := by
  unfold execOp
  simp only [ho, resolve, invoke, builtin, Sem.run_bind, Sem.run_pure, Result.andThen_ok, List.map_toArray, List.map_cons, List.map_nil, hs, hx, hr]

theorem vAppend_sound {t t' : TypeId} {s x : Operand} (ho : o.op = .call { callee := .builtin .append, args := #[s, x], argTypes := #[t, t'] }) (hS : SimG cx G g a w) (h : (vAppend P cx.n o.dst t t' s x).Runs g ls (.ws ws))
    (hk : ∀ a' w', Sim cx (apps g ws) a' w' → K a' w') : o.wp P a w K Q := by
  unfold vAppend at h
  split at h
  · simp [Rd.Runs] at h
  · rename_i e ti bytes hel
    obtain ⟨e1, e2, inf, e3, e4, e5, e6⟩ := elI_spec hel
    obtain ⟨i, z, f1, f2, f3, f4, f5⟩ := tyI_spec e2
    rw [e3] at f1; cases f1
    subst e4
    split at h
    · rename_i htt
      simp only [beq_iff_eq] at htt
      subst htt
      obtain ⟨xa, ls1, hxa, h⟩ := ev1_sound hS h
      obtain ⟨xb, ls2, hxb, h⟩ := ev1_sound hS h
      obtain ⟨l, og, src, S, ls3, tk, h⟩ := take1_sound hS hxa h
      split at h
      · rename_i sz0 es
        split at h
        case isFalse => simp [Rd.Runs] at h
        rename_i hsz0
        simp only [beq_iff_eq] at hsz0
        subst hsz0
        obtain ⟨es2, src2, base2, m, c2, news, S2, ls4, hsrc, h⟩ := srcElems_sound hS hxb h
        split at h
        · rename_i hdist
          simp only [Rd.Runs] at h
          obtain ⟨⟨hb1, hb2⟩, h⟩ := h
          obtain ⟨w1, ls5, hS1, h, hg1, hg2⟩ := gones_sound (src ++ src2) g hS (fun _ _ _ => rfl) hdist _ _ _ h
          obtain ⟨d, ls6, hd, hlt, hm, h⟩ := fresh_sound h
          simp only [Rd.Runs, Out.ws.injEq] at h
          obtain ⟨_, rfl⟩ := h
          have hm1 : apps g w1 (.meta_ d) = none := by rw [hg2 _ (by intro r j e; cases e)]; exact hm
          have tf := tk.facts hS
          obtain ⟨d1, d2, d3⟩ := distinctP_append hdist
          have hno : ∀ r j, (r, j) ∈ src ++ src2 → NonOwn (apps g w1) r j := by
            intro r' j' hm' h' l' q1 q2
            obtain ⟨h2, p1, p2⟩ := hg1 r' j' hm'
            rw [gl_some, p1] at q1; cases q1
            rw [p2] at q2; cases q2
          have htokS : ∀ b ∈ S, Unf w b ∧ Free (apps g w1) G w b := fun b hb => by
            obtain ⟨u, r, j, m1, m2⟩ := tf.2.2 b hb
            exact ⟨u, .inr ⟨r, j, m2, hno r j (by simp [m1])⟩⟩
          have htokS2 : ∀ b ∈ S2, Unf w b ∧ Free (apps g w1) G w b := fun b hb => by
            obtain ⟨u, r, j, m1, m2⟩ := hsrc.tok b hb
            exact ⟨u, .inr ⟨r, j, m2, hno r j (by simp [m1])⟩⟩
          have hdis : ∀ b ∈ S, b ∉ S2 := by
            intro b hb hb2
            obtain ⟨_, r, j, m1, m2⟩ := tf.2.2 b hb
            obtain ⟨_, r', j', m3, m4⟩ := hsrc.tok b hb2
            rw [m2] at m4; cases m4
            exact d3 _ m1 m3
          have hrl := tf.1
          simp only [RdL] at hrl
          obtain ⟨base, len, cap, q1, q2, q3, q4, q5⟩ := hrl
          have hnl : news.length = m * inf.size := by rw [hsrc.rd.length, hsrc.len, e6]
          have hmlen := hsrc.len
          have hmax : (len + m) * inf.bytes ≤ 70368744177664 ∧ len + m ≤ 70368744177664 := by rw [q2, hmlen]; exact ⟨hb1, hb2⟩
          have hdd := hd
          by_cases hm0 : m = 0
          · -- nothing to copy
            have hes2 : es2 = [] := List.eq_nil_of_length_eq_zero (by omega)
            subst hes2
            have run := run_append_zero (P := P) w t o.type e inf e1 e3 base base2 len cap c2 q3
            refine wp_value (run_append_op ho q1 (by rw [hsrc.val, hm0]) run) (hk _ _ ?_)
            rw [apps_append, hdd, List.append_nil, ← q1]
            exact hS1.newSlice hlt hm1 w rfl rfl rfl (Nat.le_refl _) (fun _ _ _ => rfl) _ _ _ S tf.1 tf.2.1 htokS
          · obtain ⟨b2, off2, hbase2, hcells⟩ := hsrc.cells (by omega)
            subst hbase2
            have hnews : ∀ j u, news[j]? = some u → w.cell? ((⟨b2, off2, none⟩ : Addr).add j) = some u := fun j u hj => by rw [add_lit]; exact hcells j u hj
            have hz0 : z.cells.size = inf.size := by
              have := (zipZ_spec f4).2.1
              simpa [e6] using this
            have wsame : ∀ ob, Same (fun _ => True) w (w.drew.alloc ob) := fun ob => ⟨rfl, rfl, rfl, by simp, fun b hb _ => heap_alloc_old w.drew ob hb⟩
            have hold : ∀ ob b, b < w.heap.size → (w.drew.alloc ob).heap[b]? = w.heap[b]? := fun ob b hb => heap_alloc_old w.drew ob hb
            rcases q5 with ⟨r2, r3⟩ | ⟨b, off, cur, ty, fz, S', r1, r2, r3, r4, r5⟩
            · -- onto nil
              subst r2 r3
              have hl0 : len = 0 := by omega
              subst hl0
              have hes : es = [] := List.eq_nil_of_length_eq_zero q2.symm
              subst hes
              have run := run_append_base (P := P) base w t o.type e inf z e1 e3 f2 ⟨b2, off2, none⟩ m c2 news hnl hnews (by omega) (by omega) (by simp only [Nat.zero_add] at hmax; omega)
              refine wp_value (run_append_op ho q1 hsrc.val run) (hk _ _ ?_)
              rw [apps_append, hdd, List.nil_append]
              have hge := grownCap_ge w m 0 e
              have hgm := grownCap_le_maxLen w m 0 e (by unfold maxLen; omega)
              refine hS1.newRow hlt hm1 _ (wsame _) w.heap.size _ e (Nat.le_refl _) (heap_alloc_new w.drew _) _ _ m _ hmlen hge hgm ?_ S2 ?_ hsrc.nodup ?_
              · simp only [Array.size_append, List.size_toArray, hnl, size_zeroCells, hz0, ← e6]
                rw [← Nat.add_mul]; exact Nat.mul_le_mul_right _ (by omega)
              · have : (news.toArray ++ Builtin.zeroCells z.cells (grownCap w m 0 e - m)).toList.take (m * ti.zero.length) = news := by
                  rw [← e6, ← hnl]; simp
                rw [this]
                exact RdEs.keep _ _ _ _ hsrc.rd (fun b hb => hold _ b (htokS2 b hb).1.lt)
              · intro b hb
                have := htokS2 b hb
                exact ⟨this.1.keep (hold _ b this.1.lt), this.2, fun e => by have := this.1.lt; omega⟩
            · subst r1 r5
              have hbtok := tf.2.2 b (by simp)
              obtain ⟨ub, rb, jb, mb1, mb2⟩ := hbtok
              have hfz : fz = (0, 0) := by obtain ⟨c', t', hc'⟩ := ub; rw [r2] at hc'; cases hc'; rfl
              subst hfz
              have hnd := List.nodup_cons.1 tf.2.1
              have hrow := r4.length
              have hlc : (len + m) * inf.size = len * inf.size + m * inf.size := Nat.add_mul _ _ _
              have hcapb : ∀ k, k ≤ cap → k * ti.zero.length ≤ cap * ti.zero.length := fun k hk => Nat.mul_le_mul_right _ hk
              by_cases hroom : len + m ≤ cap
              · have hfit : off + len * inf.size + news.length ≤ cur.size := by
                  have := hcapb _ hroom
                  rw [hnl]; rw [← e6] at this r3; omega
                have run := run_append_room' (P := P) w t o.type e inf e1 e3 b off len cap cur ty r2 ⟨b2, off2, none⟩ m c2 news hnl hnews hsrc.rd.ones hroom hfit
                refine wp_value (run_append_op ho q1 hsrc.val run) (hk _ _ ?_)
                rw [apps_append, hdd]
                have hoth : ∀ (cs : Array Value) b', b' ≠ b → (w.setRow b cs).heap[b']? = w.heap[b']? := fun cs b' hb' => setRow_other w b b' _ hb'
                refine hS1.newSlice hlt hm1 (w.setRow b (cur.toList.take (off + len * inf.size) ++ news ++ cur.toList.drop (off + len * inf.size + news.length)).toArray) rfl rfl rfl (by simp) (fun b' hb' hl => hoth _ b' (by
                    rintro rfl
                    obtain ⟨h', l', z1, z2⟩ := hl rb jb mb2
                    exact hno rb jb (by simp [mb1]) h' l' z1 z2)) _ _ _ (b :: (S' ++ S2)) ?_ ?_ ?_
                · simp only [RdL]
                  refine ⟨_, len + m, cap, rfl, by simp [← q2, ← hmlen], hroom, q4, .inr ⟨b, off, _, ty, (0, 0), S' ++ S2, rfl, setRow_heap w b cur _ ty _ r2, ?_, ?_, rfl⟩⟩
                  · simp only [List.size_toArray, List.length_append, List.length_take, List.length_drop, Array.length_toList]; omega
                  · have hl1 : (cur.toList.take (off + len * inf.size)).length = off + len * inf.size := by simp only [List.length_take, Array.length_toList]; omega
                    have : ((cur.toList.take (off + len * inf.size) ++ news ++ cur.toList.drop (off + len * inf.size + news.length)).toArray.toList.drop off).take ((len + m) * ti.zero.length) = (cur.toList.drop off).take (len * ti.zero.length) ++ news := by
                      rw [← e6]
                      apply List.ext_getElem?
                      intro k
                      have hl2 : ((cur.toList.drop off).take (len * inf.size)).length = len * inf.size := by simp only [List.length_take, List.length_drop, Array.length_toList]; omega
                      simp only [List.getElem?_take, List.getElem?_drop]
                      rcases Nat.lt_or_ge k (len * inf.size) with hk | hk
                      · have rhs : ((cur.toList.drop off).take (len * inf.size) ++ news)[k]? = ((cur.toList.drop off).take (len * inf.size))[k]? := List.getElem?_append_left (by omega)
                        have lhs : (cur.toList.take (off + len * inf.size) ++ news ++ cur.toList.drop (off + len * inf.size + news.length))[off + k]? = (cur.toList.take (off + len * inf.size))[off + k]? := by
                          rw [List.append_assoc]; exact List.getElem?_append_left (by omega)
                        rw [if_pos (by omega), rhs, lhs]
                        simp only [List.getElem?_take, List.getElem?_drop]
                        rw [if_pos (by omega), if_pos hk]
                      · have rhs : ((cur.toList.drop off).take (len * inf.size) ++ news)[k]? = news[k - len * inf.size]? := by
                          rw [List.getElem?_append_right (by omega), hl2]
                        rw [rhs]
                        by_cases ck : k < (len + m) * inf.size
                        · have lhs : (cur.toList.take (off + len * inf.size) ++ news ++ cur.toList.drop (off + len * inf.size + news.length))[off + k]? = news[k - len * inf.size]? := by
                            rw [List.append_assoc, List.getElem?_append_right (by omega), hl1, List.getElem?_append_left (by omega)]; congr 1; omega
                          rw [if_pos ck, lhs]
                        · rw [if_neg ck, List.getElem?_eq_none (by omega)]
                    rw [this]
                    exact (RdEs.keep _ _ _ _ r4 (fun c hc => hoth _ c (by rintro rfl; exact hnd.1 hc))).append (RdEs.keep _ _ _ _ hsrc.rd (fun c hc => hoth _ c (by rintro rfl; exact hdis _ (by simp) hc)))
                · rw [List.nodup_cons, List.nodup_append]
                  refine ⟨?_, hnd.2, hsrc.nodup, fun x hx y hy e => hdis x (by simp [hx]) (by rw [e]; exact hy)⟩
                  simp only [List.mem_append, not_or]
                  exact ⟨hnd.1, hdis b (by simp)⟩
                · intro c hc
                  have hcase : (c = b ∨ c ≠ b) := by omega
                  rcases hcase with rfl | hcb
                  · exact ⟨⟨_, ty, setRow_heap w c cur _ ty _ r2⟩, (htokS c (by simp)).2⟩
                  · rcases List.mem_cons.1 hc with rfl | hc
                    · exact absurd rfl hcb
                    · rcases List.mem_append.1 hc with hc | hc
                      · exact ⟨(htokS c (by simp [hc])).1.keep (hoth _ c hcb), (htokS c (by simp [hc])).2⟩
                      · exact ⟨(htokS2 c hc).1.keep (hoth _ c hcb), (htokS2 c hc).2⟩
              · have holds : ∀ j u, ((cur.toList.drop off).take (len * ti.zero.length))[j]? = some u → w.cell? ((⟨b, off, none⟩ : Addr).add j) = some u := fun j u hj => by rw [add_lit]; exact row_cells r2 hj
                have run := run_append_grow (P := P) w t o.type e inf z e1 e3 f2 ⟨b, off, none⟩ len cap _ (by rw [hrow, ← q2, e6]) holds ⟨b2, off2, none⟩ m c2 news hnl hnews (by omega) (by omega) (growslice_fits (by omega) (by omega))
                refine wp_value (run_append_op ho q1 hsrc.val run) (hk _ _ ?_)
                rw [apps_append, hdd]
                have hge := grownCap_ge w (len + m) cap e
                have hgm := grownCap_le_maxLen w (len + m) cap e (by unfold maxLen; omega)
                refine hS1.newRow hlt hm1 _ (wsame _) w.heap.size _ e (Nat.le_refl _) (heap_alloc_new w.drew _) _ _ (len + m) _ (by simp [← q2, ← hmlen]) hge hgm ?_ (S' ++ S2) ?_ ?_ ?_
                · have hrow' : ((cur.toList.drop off).take (len * inf.size)).length = es.length * inf.size := by rw [e6]; exact hrow
                  simp only [Array.size_append, List.size_toArray, hnl, size_zeroCells, hz0, ← e6, hrow', ← q2]
                  rw [← Nat.add_mul, ← Nat.add_mul]; exact Nat.mul_le_mul_right _ (by omega)
                · have : (((cur.toList.drop off).take (len * ti.zero.length)).toArray ++ news.toArray ++ Builtin.zeroCells z.cells (grownCap w (len + m) cap e - (len + m))).toList.take ((len + m) * ti.zero.length) = (cur.toList.drop off).take (len * ti.zero.length) ++ news := by
                    have hln : (((cur.toList.drop off).take (len * ti.zero.length)) ++ news).length = (len + m) * ti.zero.length := by
                      rw [List.length_append, hrow, hnl, ← q2, e6, Nat.add_mul]
                    rw [← hln]
                    simp only [Array.toList_append, List.append_assoc]
                    rw [← List.append_assoc]
                    exact List.take_left
                  rw [this]
                  exact (RdEs.keep _ _ _ _ r4 (fun c hc => hold _ c (htokS c (by simp [hc])).1.lt)).append (RdEs.keep _ _ _ _ hsrc.rd (fun c hc => hold _ c (htokS2 c hc).1.lt))
                · rw [List.nodup_append]
                  exact ⟨hnd.2, hsrc.nodup, fun x hx y hy e => hdis x (by simp [hx]) (by rw [e]; exact hy)⟩
                · intro c hc
                  have hu : Unf w c ∧ Free (apps g w1) G w c := by
                    rcases List.mem_append.1 hc with hc | hc
                    · exact htokS c (by simp [hc])
                    · exact htokS2 c hc
                  exact ⟨hu.1.keep (hold _ c hu.1.lt), hu.2, fun e => by have := hu.1.lt; omega⟩
        · simp [Rd.Runs] at h
      · simp [Rd.Runs] at h
    · simp [Rd.Runs] at h

end

end Go.V
