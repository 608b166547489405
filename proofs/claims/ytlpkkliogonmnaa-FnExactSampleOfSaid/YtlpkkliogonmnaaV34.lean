/-
  The value-level condition generator, part 34: a call that writes into rows of the caller's is sound.
-/
import Derived.Test.YtlpkkliogonmnaaV33
set_option linter.all false

namespace Go.V

section
variable {P : Program} {o : Oper} {cx : Cx} {G : Gh} {g : Gm} {a : Act} {w : World} {ls : List Loc} {K : Act → World → Prop} {Q : Exit → Act → World → Prop}

theorem vCallM_sound {f : FuncId} {ts : Array TypeId} {args : Array Operand} (ho : o.op = .call { callee := .value (.func f), args := args, argTypes := ts }) (hS : SimG cx G g a w) {ty : TypeId → Option TI} {mk : MK}
    {ws : List W} (h : (vCallM prS ty cx.n o.dst (hasBody P f) ts args mk resWs).Runs g ls (.ws ws)) (hc : ∀ ds pre outs res, mk ds = some (pre, outs, res) → pre () → MCtr P f ds outs res)
    (hk : ∀ a' w', Sim cx (apps g ws) a' w' → K a' w') : o.wp P a w K Q := by
  unfold vCallM at h
  split at h
  case isFalse => exact h.elim
  rename_i hbody
  obtain ⟨ds, ps, ls1, hargs, h⟩ := ownDs_sound hS _ _ _ _ _ h
  split at h
  case h_2 => exact h.elim
  rename_i pre outs res hmk
  split at h
  case isFalse => exact h.elim
  rename_i hdist
  obtain ⟨hpre, h⟩ := h
  obtain ⟨hs, ls2, hups, h⟩ := upsR_sound _ _ _ _ _ h
  obtain ⟨d, ls3, hd, hlt, hm, h⟩ := fresh_sound h
  simp only [Rd.Runs, Out.ws.injEq] at h
  obtain ⟨_, rfl⟩ := h
  have hex : (execOp a.eval o).run P w = .ok (.enter f (args.map a.eval)) w := by
    unfold execOp
    simp only [ho, resolve, Act.eval, Deferred.ofValue, Sem.run_bind, Sem.run_pure, Result.andThen_ok, invoke, Array.empty_append, Array.append_empty]
    exact callFunc_run hbody _
  unfold Oper.wp
  rw [hex]
  simp only [Oper.upon]
  obtain ⟨hnd, hunf⟩ := fpsOf_nodup hS hdist hargs.mem
  have hcall := hc ds pre outs res hmk hpre w (args.toList.map a.eval) (fpsOf G ps) (hargs.rd hS) hnd hunf
  have harr : (args.toList.map a.eval).toArray = args.map a.eval := by rw [← Array.toList_map, Array.toArray_toList]
  rw [harr] at hcall
  refine hcall.mono ?_
  rintro e w' ⟨v, Sr, So, rfl, hres, hout, hnd2, hfr, hsame⟩
  rw [hd]
  refine hk _ _ ?_
  rw [hargs.vals] at hout
  obtain ⟨Su, u1, u2, u3⟩ := hout.items
  obtain ⟨vs, lv, hlv, hv⟩ : ∃ vs lv, LvOk w' res vs lv Sr ∧ ((∃ dv, res = [dv] ∧ vs = [v]) ∨ v = .tuple vs.toArray ∧ ∀ dv, res ≠ [dv]) := by
    cases res with
    | nil => obtain ⟨vs, e, h2⟩ := hres; obtain ⟨lv, k⟩ := RdDVs.lv h2; exact ⟨vs, lv, k, .inr ⟨e, fun dv e => by cases e⟩⟩
    | cons d1 rest =>
      cases rest with
      | nil =>
        have h2 : RdDVs w' [d1] [v] Sr := by simp only [RdDVs]; exact ⟨v, [], Sr, [], rfl, hres, ⟨rfl, rfl⟩, by simp⟩
        obtain ⟨lv, k⟩ := RdDVs.lv h2
        exact ⟨[v], lv, k, .inl ⟨d1, rfl, rfl⟩⟩
      | cons d2 rest => obtain ⟨vs, e, h2⟩ := hres; obtain ⟨lv, k⟩ := RdDVs.lv h2; exact ⟨vs, lv, k, .inr ⟨e, fun dv e => by cases e⟩⟩
  have hrec := hlv.rec_
  obtain ⟨Ss, s1, s2, s3⟩ := hrec.items
  obtain ⟨l1, l2⟩ := hups.length
  have l3 : Su.length = ps.length := by omega
  rw [List.nodup_append] at hnd2
  obtain ⟨n1, n2, n3⟩ := hnd2
  obtain ⟨a1, a2, a3⟩ := apps_ups (Ss := Su) (g := g) hdist l1 l3
  have hmem : ∀ {i : Nat} {r j : Nat}, ps[i]? = some (r, j) → (r, j) ∈ ps := fun e => List.mem_of_getElem? e
  have hSu : ∀ {i : Nat} {S : List Nat}, Su[i]? = some S → Su.getD i [] = S := fun e => by simp [List.getD, e]
  have hSuS : ∀ {i : Nat} {S : List Nat} {b : Nat}, Su[i]? = some S → b ∈ S → b ∈ So := fun {i S b} e hb => by
    rw [← u1]; exact flatten_getD (k := i) (by rw [hSu e]; exact hb)
  have hl : ∀ r j, ((W.root d false ((res.flatMap dvLeaves).map fun l => ⟨0, 0, none, .own l⟩)).app (apps g (wsOf ps hs))) (.leaf r j) = if r = d then (((res.flatMap dvLeaves).map fun l => (⟨0, 0, none, .own l⟩ : Hv))[j]?).map .h else match uOf ps hs Su r j with
      | some x => some (.h x.1)
      | none => g (.leaf r j) := by
    intro r j
    simp only [W.app]
    split
    · rfl
    · exact a3 r j
  obtain ⟨G', k1, k2⟩ := hS.call (uOf ps hs Su) hm ((res.flatMap dvLeaves).map fun l => ⟨0, 0, none, .own l⟩) w' ((W.root d false ((res.flatMap dvLeaves).map fun l => ⟨0, 0, none, .own l⟩)).app (apps g (wsOf ps hs)))
    (fun e => by simp only [W.app]; exact a1 e)
    (fun r => by
      simp only [W.app]
      split
      · rfl
      · exact a2 r)
    hl hsame.os hsame.tape hsame.output hsame.size
    (by
      intro b hb hno
      refine hsame.block b hb (fun hbS => ?_)
      obtain ⟨p, hp, hbp⟩ := fpsOf_mem hbS
      obtain ⟨x, hx⟩ := uOf_mem l1 l3 hp
      exact hno p.1 p.2 x hx hbp)
    (by
      intro r j h' S' hx
      obtain ⟨i, i1, i2, i3⟩ := uOf_some hx
      obtain ⟨h, sz, es, es', q1, q2, q3, q4, q5⟩ := hups.at i r j h' i1 i2
      refine ⟨h, sz, es, es', q1, q2, q3, q4, ?_, ?_⟩
      · obtain ⟨v', z1, z2⟩ := u3 i _ q5
        rw [hSu i3] at z2
        rw [List.getElem?_map, i1] at z1
        cases z1; exact z2
      · have := nodup_getD (by rw [u1]; exact n2) i
        rw [hSu i3] at this; exact this)
    (fun j => lv.getD j undef) (fun j => Ss.getD j [])
    (by
      intro j h hj
      simp only [List.getElem?_map, Option.map_eq_some_iff] at hj
      obtain ⟨l, e1, rfl⟩ := hj
      obtain ⟨u, q1, q2⟩ := s3 j l e1
      exact ⟨l, rfl, by simpa [List.getD, q1] using q2, nodup_getD (by rw [s1]; exact n1) j⟩)
    (by
      intro b hb
      have hbb : b ∈ Sr ++ So := by
        rcases hb with ⟨j, _, hbj⟩ | ⟨r, j, h', S', hx, hbS⟩
        · exact List.mem_append.2 (.inl (by rw [← s1]; exact flatten_getD hbj))
        · obtain ⟨i, _, _, i3⟩ := uOf_some hx
          exact List.mem_append.2 (.inr (hSuS i3 hbS))
      obtain ⟨q1, q2⟩ := hfr b hbb
      refine ⟨q1, ?_⟩
      rcases q2 with q2 | q2
      · exact .inl q2
      · obtain ⟨p, hp, hbp⟩ := fpsOf_mem q2
        obtain ⟨x, hx⟩ := uOf_mem l1 l3 hp
        exact .inr ⟨p.1, p.2, x, hx, hbp⟩)
    (fun i j _ _ hij => flatten_disj (by rw [s1]; exact n1) i j hij)
    (by
      intro i r j h' S' _ hx b hb hbS
      obtain ⟨i2, _, _, i3⟩ := uOf_some hx
      exact n3 b (by rw [← s1]; exact flatten_getD hb) b (hSuS i3 hbS) rfl)
    (by
      intro r j h' S' r2 j2 h2 S2 hx hx2 hne b hb hb2
      obtain ⟨i, i1, _, i3⟩ := uOf_some hx
      obtain ⟨i', i1', _, i3'⟩ := uOf_some hx2
      have hii : i ≠ i' := by rintro rfl; rw [i1] at i1'; cases i1'; exact hne rfl
      exact flatten_disj (by rw [u1]; exact n2) i i' hii b (by rw [hSu i3]; exact hb) (by rw [hSu i3']; exact hb2))
  rw [apps_append]
  simp only [resWs, apps]
  refine ⟨G', k1.put hlt ?_⟩
  have hgl : ∀ i l, (res.flatMap dvLeaves)[i]? = some l → gl ((W.root d false ((res.flatMap dvLeaves).map fun l => ⟨0, 0, none, .own l⟩)).app (apps g (wsOf ps hs))) d (0 + i) = some ⟨0, 0, none, .own l⟩ := by
    intro i l e
    simp [gl, W.app, e]
  have hval : ∀ i u, lv[i]? = some u → G'.val d (0 + i) = u := by
    intro i u e
    rw [k2, Nat.zero_add]
    simp [List.getD, e]
  have hall := resRs_ok (G := G') res 0 vs lv Sr hlv (fun i l e => ⟨none, hgl i l e⟩) hval
  rcases hv with ⟨dv, rfl, rfl⟩ | ⟨rfl, hne⟩
  · simp only [resAll]
    simp only [resRs, ROks] at hall
    obtain ⟨v', vs', e, h1, _⟩ := hall
    cases e; exact h1
  · have : resAll d res = .tup (resRs d 0 res) := by
      unfold resAll
      split
      · exact absurd rfl (hne _)
      · rfl
    rw [this]
    simp only [ROk]
    exact ⟨vs, rfl, hall⟩

end
end Go.V
