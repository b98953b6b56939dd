/- What the statement's proof stands on, part 5: contracts of the program's functions, and plain laws. -/
import Derived.WalkMore
import Derived.Test.YtmlgieclkedomaaGreatPushes1
import Derived.Test.YtmlgieclkedomaaGreatPushes2
import Derived.Test.YtmlgieclkedomaaGreatPushes3
import Derived.Test.YtmlgieclkedomaaGreatPushes4
set_option linter.unusedVariables false
set_option linter.unusedSimpArgs false
namespace Go.Proofs.YtmlgieclkedomaaGreat
open Go Go.RowKit
attribute [local irreducible] shaH

theorem stepsM_cons_err {H : Bs → Bs} {dig : Bs} {o : OpS} {l : List OpS} {m : PM} {e : Int} (h : stepM H dig o m = .error e) : stepsM H dig (o :: l) m = .error e := by
  simp only [stepsM, h, bindM]
theorem stepsM_cons_ok {H : Bs → Bs} {dig : Bs} {o : OpS} {l : List OpS} {m m2 : PM} {u : Unit} (h : stepM H dig o m = .ok (u, m2)) : stepsM H dig (o :: l) m = stepsM H dig l m2 := by
  simp only [stepsM, h, bindM]
set_option maxRecDepth 10000 in
set_option maxHeartbeats 4000000 in
theorem run_spec {I : Imm} {w : World} {mb sp : Nat} {dig : Bs} {m : PM} {L : List Item} (hin : Init I L w) (h : MachAt I mb sp dig m L) (hd : dig.length = 32) (hg : m.Good) {v : Value} {l : List OpS} (hl : OpsRd I v l) (hol : ∀ o ∈ l, o.data.length ≤ 1000000) :
    Calls Tryz.prog 74 #[.pointer (some ⟨mb, 0, none⟩), v] w (RPost anyR L I w mb sp dig (runM shaH dig l m)) := by
  have hS := hin.nx
  obtain ⟨R, hR⟩ : ∃ R, R = runM shaH dig l m := ⟨_, rfl⟩
  rw [← hR]
  have HR := Lib.hid hR
  obtain ⟨xs, hr, hops⟩ := id hl
  obtain ⟨ad, cap, rfl, h1, h2, -⟩ := hr.ex
  have hml := h2
  unfold maxLen at hml
  clear hR
  go_enter Tryz.func74, Tryz.ntmps74
  refine wp_scope_straight (wp_seq (wp_label ?_))
  simp only [Exit.then]
  go_wp2_with fail
  go_loopw [8] (fun v8 wr => ∃ i K L' mi, i ≤ l.length ∧ v8 = .int .i64 (i : Nat) ∧ Hid (stepsM shaH dig l m = stepsM shaH dig (l.drop i) mi) ∧ mi.Good ∧ I.Le K ∧ MachAt K mb sp dig mi L' ∧ Nx L I w K L' wr) (fun v8 _ => l.length - (intOf v8).toNat)
  case atStart => exact ⟨0, I, L, m, by omega, rfl, Lib.hid (by simp), hg, .refl _, h, hS⟩
  case round =>
    clear hS
    obtain ⟨i, K, L', mi, hi, rfl, Hst, hgi, hle, hma, hS⟩ := hrel
    by_cases hlt : i < l.length
    · obtain ⟨b0, j0, da, dc, rfl, hrd, hat⟩ := hl.at i hlt
      obtain ⟨o, ho⟩ : ∃ o, o = l[i] := ⟨_, rfl⟩
      have hdrop : l.drop i = o :: l.drop (i + 1) := by rw [ho]; exact List.drop_eq_getElem_cons hlt
      have holo : o.data.length ≤ 1000000 := hol o (by rw [ho]; exact List.getElem_mem hlt)
      rw [← ho] at hrd hat
      have hatK := hat.mono hle
      have hopK : OpAt K o [bv o.code, .slice da o.data.length dc] := ⟨da, dc, rfl, hrd.mono hle⟩
      have hRs : R = bindM (stepsM shaH dig (o :: l.drop (i + 1)) mi) fun _ m => if m.br = [] then okM () m else .error 131 := by
        rw [HR.out]; unfold runM; rw [Hst.out, hdrop]
      have hRe : ∀ e, stepM shaH dig o mi = .error e → R = .error e := fun e he => by rw [hRs, stepsM_cons_err he]; rfl
      have hSn : ∀ u m2, stepM shaH dig o mi = .ok (u, m2) → Hid (stepsM shaH dig l m = stepsM shaH dig (l.drop (i + 1)) m2) := fun u m2 he => Lib.hid (by rw [Hst.out, hdrop, stepsM_cons_ok he])
      have hkeep := stepM_keeps (H := shaH) hgi (dig := dig) (o := o)
      have Hlt := Lib.hid hlt
      have hcnt := fun {I : Imm} {w : World} {L : List Item} (hin : Init I L w) (h : MachAt I mb sp dig mi L) (ho : OpAt I o [bv o.code, .slice da o.data.length dc]) => counted_spec hin h hd hgi.ok ho holo
      unfold RPost at hcnt
      unfold stepM at hRe hSn hkeep
      clear ho hdrop hRs hrd hat
      cases hr1 : countedM o mi with
      | error e1 =>
        rw [hr1] at hcnt hRe
        rw [hRe e1 rfl]
        clear hRe hSn hkeep
        go_wp2_with (first | (refine sL_alloc hS rfl 30 rfl ?_; clear hS; intro ob w' hob hS) | (refine sL_loadIA hS rfl _ _ rfl _ _ rfl _ hatK rfl ?_) | (first | ((with_reducible refine gL_load ?_); first | (refine sL_load hS rfl _ _ rfl _ _ rfl 0 _ _ rfl _ rfl ?_) | (refine sL_load hS rfl _ _ rfl _ _ rfl 1 _ _ rfl _ rfl ?_) | (refine sL_load hS rfl _ _ rfl _ _ rfl 2 _ _ rfl _ rfl ?_) | (refine sL_load hS rfl _ _ rfl _ _ rfl 3 _ _ rfl _ rfl ?_) | (refine sL_load hS rfl _ _ rfl _ _ rfl 4 _ _ rfl _ rfl ?_) | (refine sL_load hS rfl _ _ rfl _ _ rfl 5 _ _ rfl _ rfl ?_) | (refine sL_loadA hS rfl _ _ rfl _ _ rfl 0 _ _ rfl _ rfl rfl ?_) | (refine sL_loadA hS rfl _ _ rfl _ _ rfl 1 _ _ rfl _ rfl rfl ?_) | (refine sL_loadA hS rfl _ _ rfl _ _ rfl 2 _ _ rfl _ rfl rfl ?_) | (refine sL_loadA hS rfl _ _ rfl _ _ rfl 3 _ _ rfl _ rfl rfl ?_) | (refine sL_loadA hS rfl _ _ rfl _ _ rfl 4 _ _ rfl _ rfl rfl ?_) | (refine sL_loadA hS rfl _ _ rfl _ _ rfl 5 _ _ rfl _ rfl rfl ?_)) | ((with_reducible refine gL_store ?_); first | (refine sL_store hS rfl _ _ _ rfl _ _ rfl 0 _ _ rfl _ (by go_simp; first | exact rfl | exact ⟨rfl, rfl⟩) rfl (by simp) ?_; clear hS; intro w' hS; simp only [List.set_cons_zero] at hS) | (refine sL_store hS rfl _ _ _ rfl _ _ rfl 1 _ _ rfl _ (by go_simp; first | exact rfl | exact ⟨rfl, rfl⟩) rfl (by simp) ?_; clear hS; intro w' hS; simp only [List.set_cons_zero, List.set_cons_succ] at hS) | (refine sL_store hS rfl _ _ _ rfl _ _ rfl 2 _ _ rfl _ (by go_simp; first | exact rfl | exact ⟨rfl, rfl⟩) rfl (by simp) ?_; clear hS; intro w' hS; simp only [List.set_cons_zero, List.set_cons_succ] at hS) | (refine sL_store hS rfl _ _ _ rfl _ _ rfl 3 _ _ rfl _ (by go_simp; first | exact rfl | exact ⟨rfl, rfl⟩) rfl (by simp) ?_; clear hS; intro w' hS; simp only [List.set_cons_zero, List.set_cons_succ] at hS) | (refine sL_store hS rfl _ _ _ rfl _ _ rfl 4 _ _ rfl _ (by go_simp; first | exact rfl | exact ⟨rfl, rfl⟩) rfl (by simp) ?_; clear hS; intro w' hS; simp only [List.set_cons_zero, List.set_cons_succ] at hS) | (refine sL_store hS rfl _ _ _ rfl _ _ rfl 5 _ _ rfl _ (by go_simp; first | exact rfl | exact ⟨rfl, rfl⟩) rfl (by simp) ?_; clear hS; intro w' hS; simp only [List.set_cons_zero, List.set_cons_succ] at hS) | (refine sL_storeB hS rfl _ _ _ rfl _ rfl 0 _ _ rfl _ (by go_simp; first | exact rfl | exact ⟨rfl, rfl⟩) (by rfl) (by rfl) (by simp [Value.oneCell']) ?_; clear hS; intro w' hS; simp only [List.set_cons_zero] at hS) | (refine sL_storeB hS rfl _ _ _ rfl _ rfl 1 _ _ rfl _ (by go_simp; first | exact rfl | exact ⟨rfl, rfl⟩) (by rfl) (by rfl) (by simp [Value.oneCell']) ?_; clear hS; intro w' hS; simp only [List.set_cons_zero, List.set_cons_succ] at hS) | (refine sL_storeB hS rfl _ _ _ rfl _ rfl 2 _ _ rfl _ (by go_simp; first | exact rfl | exact ⟨rfl, rfl⟩) (by rfl) (by rfl) (by simp [Value.oneCell']) ?_; clear hS; intro w' hS; simp only [List.set_cons_zero, List.set_cons_succ] at hS) | (refine sL_storeB hS rfl _ _ _ rfl _ rfl 3 _ _ rfl _ (by go_simp; first | exact rfl | exact ⟨rfl, rfl⟩) (by rfl) (by rfl) (by simp [Value.oneCell']) ?_; clear hS; intro w' hS; simp only [List.set_cons_zero, List.set_cons_succ] at hS) | (refine sL_storeB hS rfl _ _ _ rfl _ rfl 4 _ _ rfl _ (by go_simp; first | exact rfl | exact ⟨rfl, rfl⟩) (by rfl) (by rfl) (by simp [Value.oneCell']) ?_; clear hS; intro w' hS; simp only [List.set_cons_zero, List.set_cons_succ] at hS) | (refine sL_storeB hS rfl _ _ _ rfl _ rfl 5 _ _ rfl _ (by go_simp; first | exact rfl | exact ⟨rfl, rfl⟩) (by rfl) (by rfl) (by simp [Value.oneCell']) ?_; clear hS; intro w' hS; simp only [List.set_cons_zero, List.set_cons_succ] at hS)) | ((with_reducible refine gL_alloc ?_); (refine sL_alloc hS rfl _ rfl ?_; clear hS; intro b w' hb hS)) | ((with_reducible refine gL_box ?_); (refine sL_box hS rfl _ _ rfl _ (by go_simp; first | exact rfl | exact ⟨rfl, rfl⟩) ?_; clear hS; intro b w' hb hS))) | (go_at_call 90; refine (hcnt (Init.right (L := [_]) hS.toInit) hma hopK).mono ?_; rintro e w' ⟨rfl, J1, L1, hn⟩; replace hS := Nx.callTail (L2 := [_]) hS hn; clear hn))
        exact ⟨rfl, rfl, J1, _, hS⟩
      | ok r1 =>
        obtain ⟨u1, m1⟩ := r1
        obtain ⟨hcd, _⟩ := countedM_keeps hgi hr1
        have hdl : o.data.length ≤ 520 := by
          unfold countedM at hr1
          split at hr1
          · cases hr1
          · omega
        rw [hr1] at hcnt hRe hSn hkeep
        simp only [bindM] at hRe hSn hkeep
        clear hr1
        have hflow := fun {I : Imm} {w : World} {L : List Item} (hin : Init I L w) (h : MachAt I mb sp dig m1 L) => flow_spec hin h hd hcd.good.ok (c := o.code)
        unfold RPost boolR at hflow
        cases hr2 : flowM o.code m1 with
        | error e2 =>
          rw [hr2] at hflow hRe
          rw [hRe e2 rfl]
          clear hRe hSn hkeep
          go_wp2_with (first | (refine sL_alloc hS rfl 30 rfl ?_; clear hS; intro ob w' hob hS) | (refine sL_loadIA hS rfl _ _ rfl _ _ rfl _ hatK rfl ?_) | (first | ((with_reducible refine gL_load ?_); first | (refine sL_load hS rfl _ _ rfl _ _ rfl 0 _ _ rfl _ rfl ?_) | (refine sL_load hS rfl _ _ rfl _ _ rfl 1 _ _ rfl _ rfl ?_) | (refine sL_load hS rfl _ _ rfl _ _ rfl 2 _ _ rfl _ rfl ?_) | (refine sL_load hS rfl _ _ rfl _ _ rfl 3 _ _ rfl _ rfl ?_) | (refine sL_load hS rfl _ _ rfl _ _ rfl 4 _ _ rfl _ rfl ?_) | (refine sL_load hS rfl _ _ rfl _ _ rfl 5 _ _ rfl _ rfl ?_) | (refine sL_loadA hS rfl _ _ rfl _ _ rfl 0 _ _ rfl _ rfl rfl ?_) | (refine sL_loadA hS rfl _ _ rfl _ _ rfl 1 _ _ rfl _ rfl rfl ?_) | (refine sL_loadA hS rfl _ _ rfl _ _ rfl 2 _ _ rfl _ rfl rfl ?_) | (refine sL_loadA hS rfl _ _ rfl _ _ rfl 3 _ _ rfl _ rfl rfl ?_) | (refine sL_loadA hS rfl _ _ rfl _ _ rfl 4 _ _ rfl _ rfl rfl ?_) | (refine sL_loadA hS rfl _ _ rfl _ _ rfl 5 _ _ rfl _ rfl rfl ?_)) | ((with_reducible refine gL_store ?_); first | (refine sL_store hS rfl _ _ _ rfl _ _ rfl 0 _ _ rfl _ (by go_simp; first | exact rfl | exact ⟨rfl, rfl⟩) rfl (by simp) ?_; clear hS; intro w' hS; simp only [List.set_cons_zero] at hS) | (refine sL_store hS rfl _ _ _ rfl _ _ rfl 1 _ _ rfl _ (by go_simp; first | exact rfl | exact ⟨rfl, rfl⟩) rfl (by simp) ?_; clear hS; intro w' hS; simp only [List.set_cons_zero, List.set_cons_succ] at hS) | (refine sL_store hS rfl _ _ _ rfl _ _ rfl 2 _ _ rfl _ (by go_simp; first | exact rfl | exact ⟨rfl, rfl⟩) rfl (by simp) ?_; clear hS; intro w' hS; simp only [List.set_cons_zero, List.set_cons_succ] at hS) | (refine sL_store hS rfl _ _ _ rfl _ _ rfl 3 _ _ rfl _ (by go_simp; first | exact rfl | exact ⟨rfl, rfl⟩) rfl (by simp) ?_; clear hS; intro w' hS; simp only [List.set_cons_zero, List.set_cons_succ] at hS) | (refine sL_store hS rfl _ _ _ rfl _ _ rfl 4 _ _ rfl _ (by go_simp; first | exact rfl | exact ⟨rfl, rfl⟩) rfl (by simp) ?_; clear hS; intro w' hS; simp only [List.set_cons_zero, List.set_cons_succ] at hS) | (refine sL_store hS rfl _ _ _ rfl _ _ rfl 5 _ _ rfl _ (by go_simp; first | exact rfl | exact ⟨rfl, rfl⟩) rfl (by simp) ?_; clear hS; intro w' hS; simp only [List.set_cons_zero, List.set_cons_succ] at hS) | (refine sL_storeB hS rfl _ _ _ rfl _ rfl 0 _ _ rfl _ (by go_simp; first | exact rfl | exact ⟨rfl, rfl⟩) (by rfl) (by rfl) (by simp [Value.oneCell']) ?_; clear hS; intro w' hS; simp only [List.set_cons_zero] at hS) | (refine sL_storeB hS rfl _ _ _ rfl _ rfl 1 _ _ rfl _ (by go_simp; first | exact rfl | exact ⟨rfl, rfl⟩) (by rfl) (by rfl) (by simp [Value.oneCell']) ?_; clear hS; intro w' hS; simp only [List.set_cons_zero, List.set_cons_succ] at hS) | (refine sL_storeB hS rfl _ _ _ rfl _ rfl 2 _ _ rfl _ (by go_simp; first | exact rfl | exact ⟨rfl, rfl⟩) (by rfl) (by rfl) (by simp [Value.oneCell']) ?_; clear hS; intro w' hS; simp only [List.set_cons_zero, List.set_cons_succ] at hS) | (refine sL_storeB hS rfl _ _ _ rfl _ rfl 3 _ _ rfl _ (by go_simp; first | exact rfl | exact ⟨rfl, rfl⟩) (by rfl) (by rfl) (by simp [Value.oneCell']) ?_; clear hS; intro w' hS; simp only [List.set_cons_zero, List.set_cons_succ] at hS) | (refine sL_storeB hS rfl _ _ _ rfl _ rfl 4 _ _ rfl _ (by go_simp; first | exact rfl | exact ⟨rfl, rfl⟩) (by rfl) (by rfl) (by simp [Value.oneCell']) ?_; clear hS; intro w' hS; simp only [List.set_cons_zero, List.set_cons_succ] at hS) | (refine sL_storeB hS rfl _ _ _ rfl _ rfl 5 _ _ rfl _ (by go_simp; first | exact rfl | exact ⟨rfl, rfl⟩) (by rfl) (by rfl) (by simp [Value.oneCell']) ?_; clear hS; intro w' hS; simp only [List.set_cons_zero, List.set_cons_succ] at hS)) | ((with_reducible refine gL_alloc ?_); (refine sL_alloc hS rfl _ rfl ?_; clear hS; intro b w' hb hS)) | ((with_reducible refine gL_box ?_); (refine sL_box hS rfl _ _ rfl _ (by go_simp; first | exact rfl | exact ⟨rfl, rfl⟩) ?_; clear hS; intro b w' hb hS))) | ((go_at_call 90; refine (hcnt (Init.right (L := [_]) hS.toInit) hma hopK).mono ?_; rintro e w' ⟨J1, L1, v1, rfl, _, hn, hma1⟩; replace hS := Nx.callTail (L2 := [_]) hS hn; clear hn); refine Stop.of ?_))
          refine Stop.to ?_
          go_wp2_with (first | (first | ((with_reducible refine gL_load ?_); first | (refine sL_load hS rfl _ _ rfl _ _ rfl 0 _ _ rfl _ rfl ?_) | (refine sL_load hS rfl _ _ rfl _ _ rfl 1 _ _ rfl _ rfl ?_) | (refine sL_load hS rfl _ _ rfl _ _ rfl 2 _ _ rfl _ rfl ?_) | (refine sL_load hS rfl _ _ rfl _ _ rfl 3 _ _ rfl _ rfl ?_) | (refine sL_load hS rfl _ _ rfl _ _ rfl 4 _ _ rfl _ rfl ?_) | (refine sL_load hS rfl _ _ rfl _ _ rfl 5 _ _ rfl _ rfl ?_) | (refine sL_loadA hS rfl _ _ rfl _ _ rfl 0 _ _ rfl _ rfl rfl ?_) | (refine sL_loadA hS rfl _ _ rfl _ _ rfl 1 _ _ rfl _ rfl rfl ?_) | (refine sL_loadA hS rfl _ _ rfl _ _ rfl 2 _ _ rfl _ rfl rfl ?_) | (refine sL_loadA hS rfl _ _ rfl _ _ rfl 3 _ _ rfl _ rfl rfl ?_) | (refine sL_loadA hS rfl _ _ rfl _ _ rfl 4 _ _ rfl _ rfl rfl ?_) | (refine sL_loadA hS rfl _ _ rfl _ _ rfl 5 _ _ rfl _ rfl rfl ?_)) | ((with_reducible refine gL_store ?_); first | (refine sL_store hS rfl _ _ _ rfl _ _ rfl 0 _ _ rfl _ (by go_simp; first | exact rfl | exact ⟨rfl, rfl⟩) rfl (by simp) ?_; clear hS; intro w' hS; simp only [List.set_cons_zero] at hS) | (refine sL_store hS rfl _ _ _ rfl _ _ rfl 1 _ _ rfl _ (by go_simp; first | exact rfl | exact ⟨rfl, rfl⟩) rfl (by simp) ?_; clear hS; intro w' hS; simp only [List.set_cons_zero, List.set_cons_succ] at hS) | (refine sL_store hS rfl _ _ _ rfl _ _ rfl 2 _ _ rfl _ (by go_simp; first | exact rfl | exact ⟨rfl, rfl⟩) rfl (by simp) ?_; clear hS; intro w' hS; simp only [List.set_cons_zero, List.set_cons_succ] at hS) | (refine sL_store hS rfl _ _ _ rfl _ _ rfl 3 _ _ rfl _ (by go_simp; first | exact rfl | exact ⟨rfl, rfl⟩) rfl (by simp) ?_; clear hS; intro w' hS; simp only [List.set_cons_zero, List.set_cons_succ] at hS) | (refine sL_store hS rfl _ _ _ rfl _ _ rfl 4 _ _ rfl _ (by go_simp; first | exact rfl | exact ⟨rfl, rfl⟩) rfl (by simp) ?_; clear hS; intro w' hS; simp only [List.set_cons_zero, List.set_cons_succ] at hS) | (refine sL_store hS rfl _ _ _ rfl _ _ rfl 5 _ _ rfl _ (by go_simp; first | exact rfl | exact ⟨rfl, rfl⟩) rfl (by simp) ?_; clear hS; intro w' hS; simp only [List.set_cons_zero, List.set_cons_succ] at hS) | (refine sL_storeB hS rfl _ _ _ rfl _ rfl 0 _ _ rfl _ (by go_simp; first | exact rfl | exact ⟨rfl, rfl⟩) (by rfl) (by rfl) (by simp [Value.oneCell']) ?_; clear hS; intro w' hS; simp only [List.set_cons_zero] at hS) | (refine sL_storeB hS rfl _ _ _ rfl _ rfl 1 _ _ rfl _ (by go_simp; first | exact rfl | exact ⟨rfl, rfl⟩) (by rfl) (by rfl) (by simp [Value.oneCell']) ?_; clear hS; intro w' hS; simp only [List.set_cons_zero, List.set_cons_succ] at hS) | (refine sL_storeB hS rfl _ _ _ rfl _ rfl 2 _ _ rfl _ (by go_simp; first | exact rfl | exact ⟨rfl, rfl⟩) (by rfl) (by rfl) (by simp [Value.oneCell']) ?_; clear hS; intro w' hS; simp only [List.set_cons_zero, List.set_cons_succ] at hS) | (refine sL_storeB hS rfl _ _ _ rfl _ rfl 3 _ _ rfl _ (by go_simp; first | exact rfl | exact ⟨rfl, rfl⟩) (by rfl) (by rfl) (by simp [Value.oneCell']) ?_; clear hS; intro w' hS; simp only [List.set_cons_zero, List.set_cons_succ] at hS) | (refine sL_storeB hS rfl _ _ _ rfl _ rfl 4 _ _ rfl _ (by go_simp; first | exact rfl | exact ⟨rfl, rfl⟩) (by rfl) (by rfl) (by simp [Value.oneCell']) ?_; clear hS; intro w' hS; simp only [List.set_cons_zero, List.set_cons_succ] at hS) | (refine sL_storeB hS rfl _ _ _ rfl _ rfl 5 _ _ rfl _ (by go_simp; first | exact rfl | exact ⟨rfl, rfl⟩) (by rfl) (by rfl) (by simp [Value.oneCell']) ?_; clear hS; intro w' hS; simp only [List.set_cons_zero, List.set_cons_succ] at hS)) | ((with_reducible refine gL_alloc ?_); (refine sL_alloc hS rfl _ rfl ?_; clear hS; intro b w' hb hS)) | ((with_reducible refine gL_box ?_); (refine sL_box hS rfl _ _ rfl _ (by go_simp; first | exact rfl | exact ⟨rfl, rfl⟩) ?_; clear hS; intro b w' hb hS))) | (go_at_call 91; refine (hflow (Init.right (L := [_]) hS.toInit) hma1).mono ?_; rintro e w' ⟨rfl, J2, L2, hn⟩; replace hS := Nx.callTail (L2 := [_]) hS hn; clear hn))
          exact ⟨rfl, rfl, J2, _, hS⟩
        | ok r2 =>
          obtain ⟨b2, m2⟩ := r2
          have hg2 := flowM_keeps hcd b2 m2 hr2
          rw [hr2] at hflow hRe hSn hkeep
          simp only at hRe hSn hkeep
          clear hr2
          cases b2 with
          | true =>
            simp only [Bool.true_or, if_true] at hSn
            go_wp2_with (first | (refine sL_alloc hS rfl 30 rfl ?_; clear hS; intro ob w' hob hS) | (refine sL_loadIA hS rfl _ _ rfl _ _ rfl _ hatK rfl ?_) | (first | ((with_reducible refine gL_load ?_); first | (refine sL_load hS rfl _ _ rfl _ _ rfl 0 _ _ rfl _ rfl ?_) | (refine sL_load hS rfl _ _ rfl _ _ rfl 1 _ _ rfl _ rfl ?_) | (refine sL_load hS rfl _ _ rfl _ _ rfl 2 _ _ rfl _ rfl ?_) | (refine sL_load hS rfl _ _ rfl _ _ rfl 3 _ _ rfl _ rfl ?_) | (refine sL_load hS rfl _ _ rfl _ _ rfl 4 _ _ rfl _ rfl ?_) | (refine sL_load hS rfl _ _ rfl _ _ rfl 5 _ _ rfl _ rfl ?_) | (refine sL_loadA hS rfl _ _ rfl _ _ rfl 0 _ _ rfl _ rfl rfl ?_) | (refine sL_loadA hS rfl _ _ rfl _ _ rfl 1 _ _ rfl _ rfl rfl ?_) | (refine sL_loadA hS rfl _ _ rfl _ _ rfl 2 _ _ rfl _ rfl rfl ?_) | (refine sL_loadA hS rfl _ _ rfl _ _ rfl 3 _ _ rfl _ rfl rfl ?_) | (refine sL_loadA hS rfl _ _ rfl _ _ rfl 4 _ _ rfl _ rfl rfl ?_) | (refine sL_loadA hS rfl _ _ rfl _ _ rfl 5 _ _ rfl _ rfl rfl ?_)) | ((with_reducible refine gL_store ?_); first | (refine sL_store hS rfl _ _ _ rfl _ _ rfl 0 _ _ rfl _ (by go_simp; first | exact rfl | exact ⟨rfl, rfl⟩) rfl (by simp) ?_; clear hS; intro w' hS; simp only [List.set_cons_zero] at hS) | (refine sL_store hS rfl _ _ _ rfl _ _ rfl 1 _ _ rfl _ (by go_simp; first | exact rfl | exact ⟨rfl, rfl⟩) rfl (by simp) ?_; clear hS; intro w' hS; simp only [List.set_cons_zero, List.set_cons_succ] at hS) | (refine sL_store hS rfl _ _ _ rfl _ _ rfl 2 _ _ rfl _ (by go_simp; first | exact rfl | exact ⟨rfl, rfl⟩) rfl (by simp) ?_; clear hS; intro w' hS; simp only [List.set_cons_zero, List.set_cons_succ] at hS) | (refine sL_store hS rfl _ _ _ rfl _ _ rfl 3 _ _ rfl _ (by go_simp; first | exact rfl | exact ⟨rfl, rfl⟩) rfl (by simp) ?_; clear hS; intro w' hS; simp only [List.set_cons_zero, List.set_cons_succ] at hS) | (refine sL_store hS rfl _ _ _ rfl _ _ rfl 4 _ _ rfl _ (by go_simp; first | exact rfl | exact ⟨rfl, rfl⟩) rfl (by simp) ?_; clear hS; intro w' hS; simp only [List.set_cons_zero, List.set_cons_succ] at hS) | (refine sL_store hS rfl _ _ _ rfl _ _ rfl 5 _ _ rfl _ (by go_simp; first | exact rfl | exact ⟨rfl, rfl⟩) rfl (by simp) ?_; clear hS; intro w' hS; simp only [List.set_cons_zero, List.set_cons_succ] at hS) | (refine sL_storeB hS rfl _ _ _ rfl _ rfl 0 _ _ rfl _ (by go_simp; first | exact rfl | exact ⟨rfl, rfl⟩) (by rfl) (by rfl) (by simp [Value.oneCell']) ?_; clear hS; intro w' hS; simp only [List.set_cons_zero] at hS) | (refine sL_storeB hS rfl _ _ _ rfl _ rfl 1 _ _ rfl _ (by go_simp; first | exact rfl | exact ⟨rfl, rfl⟩) (by rfl) (by rfl) (by simp [Value.oneCell']) ?_; clear hS; intro w' hS; simp only [List.set_cons_zero, List.set_cons_succ] at hS) | (refine sL_storeB hS rfl _ _ _ rfl _ rfl 2 _ _ rfl _ (by go_simp; first | exact rfl | exact ⟨rfl, rfl⟩) (by rfl) (by rfl) (by simp [Value.oneCell']) ?_; clear hS; intro w' hS; simp only [List.set_cons_zero, List.set_cons_succ] at hS) | (refine sL_storeB hS rfl _ _ _ rfl _ rfl 3 _ _ rfl _ (by go_simp; first | exact rfl | exact ⟨rfl, rfl⟩) (by rfl) (by rfl) (by simp [Value.oneCell']) ?_; clear hS; intro w' hS; simp only [List.set_cons_zero, List.set_cons_succ] at hS) | (refine sL_storeB hS rfl _ _ _ rfl _ rfl 4 _ _ rfl _ (by go_simp; first | exact rfl | exact ⟨rfl, rfl⟩) (by rfl) (by rfl) (by simp [Value.oneCell']) ?_; clear hS; intro w' hS; simp only [List.set_cons_zero, List.set_cons_succ] at hS) | (refine sL_storeB hS rfl _ _ _ rfl _ rfl 5 _ _ rfl _ (by go_simp; first | exact rfl | exact ⟨rfl, rfl⟩) (by rfl) (by rfl) (by simp [Value.oneCell']) ?_; clear hS; intro w' hS; simp only [List.set_cons_zero, List.set_cons_succ] at hS)) | ((with_reducible refine gL_alloc ?_); (refine sL_alloc hS rfl _ rfl ?_; clear hS; intro b w' hb hS)) | ((with_reducible refine gL_box ?_); (refine sL_box hS rfl _ _ rfl _ (by go_simp; first | exact rfl | exact ⟨rfl, rfl⟩) ?_; clear hS; intro b w' hb hS))) | ((go_at_call 90; refine (hcnt (Init.right (L := [_]) hS.toInit) hma hopK).mono ?_; rintro e w' ⟨J1, L1, v1, rfl, _, hn, hma1⟩; have hle1 := hn.le (Init.right (L := [_]) hS.toInit).hI; replace hS := Nx.callTail (L2 := [_]) hS hn; clear hn); refine Stop.of ?_))
            refine Stop.to ?_
            go_wp2_with (first | (first | ((with_reducible refine gL_load ?_); first | (refine sL_load hS rfl _ _ rfl _ _ rfl 0 _ _ rfl _ rfl ?_) | (refine sL_load hS rfl _ _ rfl _ _ rfl 1 _ _ rfl _ rfl ?_) | (refine sL_load hS rfl _ _ rfl _ _ rfl 2 _ _ rfl _ rfl ?_) | (refine sL_load hS rfl _ _ rfl _ _ rfl 3 _ _ rfl _ rfl ?_) | (refine sL_load hS rfl _ _ rfl _ _ rfl 4 _ _ rfl _ rfl ?_) | (refine sL_load hS rfl _ _ rfl _ _ rfl 5 _ _ rfl _ rfl ?_) | (refine sL_loadA hS rfl _ _ rfl _ _ rfl 0 _ _ rfl _ rfl rfl ?_) | (refine sL_loadA hS rfl _ _ rfl _ _ rfl 1 _ _ rfl _ rfl rfl ?_) | (refine sL_loadA hS rfl _ _ rfl _ _ rfl 2 _ _ rfl _ rfl rfl ?_) | (refine sL_loadA hS rfl _ _ rfl _ _ rfl 3 _ _ rfl _ rfl rfl ?_) | (refine sL_loadA hS rfl _ _ rfl _ _ rfl 4 _ _ rfl _ rfl rfl ?_) | (refine sL_loadA hS rfl _ _ rfl _ _ rfl 5 _ _ rfl _ rfl rfl ?_)) | ((with_reducible refine gL_store ?_); first | (refine sL_store hS rfl _ _ _ rfl _ _ rfl 0 _ _ rfl _ (by go_simp; first | exact rfl | exact ⟨rfl, rfl⟩) rfl (by simp) ?_; clear hS; intro w' hS; simp only [List.set_cons_zero] at hS) | (refine sL_store hS rfl _ _ _ rfl _ _ rfl 1 _ _ rfl _ (by go_simp; first | exact rfl | exact ⟨rfl, rfl⟩) rfl (by simp) ?_; clear hS; intro w' hS; simp only [List.set_cons_zero, List.set_cons_succ] at hS) | (refine sL_store hS rfl _ _ _ rfl _ _ rfl 2 _ _ rfl _ (by go_simp; first | exact rfl | exact ⟨rfl, rfl⟩) rfl (by simp) ?_; clear hS; intro w' hS; simp only [List.set_cons_zero, List.set_cons_succ] at hS) | (refine sL_store hS rfl _ _ _ rfl _ _ rfl 3 _ _ rfl _ (by go_simp; first | exact rfl | exact ⟨rfl, rfl⟩) rfl (by simp) ?_; clear hS; intro w' hS; simp only [List.set_cons_zero, List.set_cons_succ] at hS) | (refine sL_store hS rfl _ _ _ rfl _ _ rfl 4 _ _ rfl _ (by go_simp; first | exact rfl | exact ⟨rfl, rfl⟩) rfl (by simp) ?_; clear hS; intro w' hS; simp only [List.set_cons_zero, List.set_cons_succ] at hS) | (refine sL_store hS rfl _ _ _ rfl _ _ rfl 5 _ _ rfl _ (by go_simp; first | exact rfl | exact ⟨rfl, rfl⟩) rfl (by simp) ?_; clear hS; intro w' hS; simp only [List.set_cons_zero, List.set_cons_succ] at hS) | (refine sL_storeB hS rfl _ _ _ rfl _ rfl 0 _ _ rfl _ (by go_simp; first | exact rfl | exact ⟨rfl, rfl⟩) (by rfl) (by rfl) (by simp [Value.oneCell']) ?_; clear hS; intro w' hS; simp only [List.set_cons_zero] at hS) | (refine sL_storeB hS rfl _ _ _ rfl _ rfl 1 _ _ rfl _ (by go_simp; first | exact rfl | exact ⟨rfl, rfl⟩) (by rfl) (by rfl) (by simp [Value.oneCell']) ?_; clear hS; intro w' hS; simp only [List.set_cons_zero, List.set_cons_succ] at hS) | (refine sL_storeB hS rfl _ _ _ rfl _ rfl 2 _ _ rfl _ (by go_simp; first | exact rfl | exact ⟨rfl, rfl⟩) (by rfl) (by rfl) (by simp [Value.oneCell']) ?_; clear hS; intro w' hS; simp only [List.set_cons_zero, List.set_cons_succ] at hS) | (refine sL_storeB hS rfl _ _ _ rfl _ rfl 3 _ _ rfl _ (by go_simp; first | exact rfl | exact ⟨rfl, rfl⟩) (by rfl) (by rfl) (by simp [Value.oneCell']) ?_; clear hS; intro w' hS; simp only [List.set_cons_zero, List.set_cons_succ] at hS) | (refine sL_storeB hS rfl _ _ _ rfl _ rfl 4 _ _ rfl _ (by go_simp; first | exact rfl | exact ⟨rfl, rfl⟩) (by rfl) (by rfl) (by simp [Value.oneCell']) ?_; clear hS; intro w' hS; simp only [List.set_cons_zero, List.set_cons_succ] at hS) | (refine sL_storeB hS rfl _ _ _ rfl _ rfl 5 _ _ rfl _ (by go_simp; first | exact rfl | exact ⟨rfl, rfl⟩) (by rfl) (by rfl) (by simp [Value.oneCell']) ?_; clear hS; intro w' hS; simp only [List.set_cons_zero, List.set_cons_succ] at hS)) | ((with_reducible refine gL_alloc ?_); (refine sL_alloc hS rfl _ rfl ?_; clear hS; intro b w' hb hS)) | ((with_reducible refine gL_box ?_); (refine sL_box hS rfl _ _ rfl _ (by go_simp; first | exact rfl | exact ⟨rfl, rfl⟩) ?_; clear hS; intro b w' hb hS))) | (go_at_call 91; refine (hflow (Init.right (L := [_]) hS.toInit) hma1).mono ?_; rintro e w' ⟨J2, L2, v2, rfl, rfl, hn, hma2⟩; have hle2 := hn.le (Init.right (L := [_]) hS.toInit).hI; replace hS := Nx.callTail (L2 := [_]) hS hn; clear hn))
            go_roundw
            case rel => exact ⟨i + 1, J2, L2, m2, Hlt.out, by simp, hSn () m2 rfl, hg2, hle.trans (hle1.trans hle2), hma2, hS.drop⟩
            case measure => simp [intOf]; omega
          | false =>
            have hdoes := fun {I : Imm} {w : World} {L : List Item} (hin : Init I L w) (h : MachAt I mb sp dig m2 L) => does_spec hin h hd hg2.ok
            cases hb : doesM m2 with
            | false =>
              rw [hb] at hSn
              simp only [Bool.false_or, Bool.not_false, if_true] at hSn
              go_wp2_with (first | (refine sL_alloc hS rfl 30 rfl ?_; clear hS; intro ob w' hob hS) | (refine sL_loadIA hS rfl _ _ rfl _ _ rfl _ hatK rfl ?_) | (first | ((with_reducible refine gL_load ?_); first | (refine sL_load hS rfl _ _ rfl _ _ rfl 0 _ _ rfl _ rfl ?_) | (refine sL_load hS rfl _ _ rfl _ _ rfl 1 _ _ rfl _ rfl ?_) | (refine sL_load hS rfl _ _ rfl _ _ rfl 2 _ _ rfl _ rfl ?_) | (refine sL_load hS rfl _ _ rfl _ _ rfl 3 _ _ rfl _ rfl ?_) | (refine sL_load hS rfl _ _ rfl _ _ rfl 4 _ _ rfl _ rfl ?_) | (refine sL_load hS rfl _ _ rfl _ _ rfl 5 _ _ rfl _ rfl ?_) | (refine sL_loadA hS rfl _ _ rfl _ _ rfl 0 _ _ rfl _ rfl rfl ?_) | (refine sL_loadA hS rfl _ _ rfl _ _ rfl 1 _ _ rfl _ rfl rfl ?_) | (refine sL_loadA hS rfl _ _ rfl _ _ rfl 2 _ _ rfl _ rfl rfl ?_) | (refine sL_loadA hS rfl _ _ rfl _ _ rfl 3 _ _ rfl _ rfl rfl ?_) | (refine sL_loadA hS rfl _ _ rfl _ _ rfl 4 _ _ rfl _ rfl rfl ?_) | (refine sL_loadA hS rfl _ _ rfl _ _ rfl 5 _ _ rfl _ rfl rfl ?_)) | ((with_reducible refine gL_store ?_); first | (refine sL_store hS rfl _ _ _ rfl _ _ rfl 0 _ _ rfl _ (by go_simp; first | exact rfl | exact ⟨rfl, rfl⟩) rfl (by simp) ?_; clear hS; intro w' hS; simp only [List.set_cons_zero] at hS) | (refine sL_store hS rfl _ _ _ rfl _ _ rfl 1 _ _ rfl _ (by go_simp; first | exact rfl | exact ⟨rfl, rfl⟩) rfl (by simp) ?_; clear hS; intro w' hS; simp only [List.set_cons_zero, List.set_cons_succ] at hS) | (refine sL_store hS rfl _ _ _ rfl _ _ rfl 2 _ _ rfl _ (by go_simp; first | exact rfl | exact ⟨rfl, rfl⟩) rfl (by simp) ?_; clear hS; intro w' hS; simp only [List.set_cons_zero, List.set_cons_succ] at hS) | (refine sL_store hS rfl _ _ _ rfl _ _ rfl 3 _ _ rfl _ (by go_simp; first | exact rfl | exact ⟨rfl, rfl⟩) rfl (by simp) ?_; clear hS; intro w' hS; simp only [List.set_cons_zero, List.set_cons_succ] at hS) | (refine sL_store hS rfl _ _ _ rfl _ _ rfl 4 _ _ rfl _ (by go_simp; first | exact rfl | exact ⟨rfl, rfl⟩) rfl (by simp) ?_; clear hS; intro w' hS; simp only [List.set_cons_zero, List.set_cons_succ] at hS) | (refine sL_store hS rfl _ _ _ rfl _ _ rfl 5 _ _ rfl _ (by go_simp; first | exact rfl | exact ⟨rfl, rfl⟩) rfl (by simp) ?_; clear hS; intro w' hS; simp only [List.set_cons_zero, List.set_cons_succ] at hS) | (refine sL_storeB hS rfl _ _ _ rfl _ rfl 0 _ _ rfl _ (by go_simp; first | exact rfl | exact ⟨rfl, rfl⟩) (by rfl) (by rfl) (by simp [Value.oneCell']) ?_; clear hS; intro w' hS; simp only [List.set_cons_zero] at hS) | (refine sL_storeB hS rfl _ _ _ rfl _ rfl 1 _ _ rfl _ (by go_simp; first | exact rfl | exact ⟨rfl, rfl⟩) (by rfl) (by rfl) (by simp [Value.oneCell']) ?_; clear hS; intro w' hS; simp only [List.set_cons_zero, List.set_cons_succ] at hS) | (refine sL_storeB hS rfl _ _ _ rfl _ rfl 2 _ _ rfl _ (by go_simp; first | exact rfl | exact ⟨rfl, rfl⟩) (by rfl) (by rfl) (by simp [Value.oneCell']) ?_; clear hS; intro w' hS; simp only [List.set_cons_zero, List.set_cons_succ] at hS) | (refine sL_storeB hS rfl _ _ _ rfl _ rfl 3 _ _ rfl _ (by go_simp; first | exact rfl | exact ⟨rfl, rfl⟩) (by rfl) (by rfl) (by simp [Value.oneCell']) ?_; clear hS; intro w' hS; simp only [List.set_cons_zero, List.set_cons_succ] at hS) | (refine sL_storeB hS rfl _ _ _ rfl _ rfl 4 _ _ rfl _ (by go_simp; first | exact rfl | exact ⟨rfl, rfl⟩) (by rfl) (by rfl) (by simp [Value.oneCell']) ?_; clear hS; intro w' hS; simp only [List.set_cons_zero, List.set_cons_succ] at hS) | (refine sL_storeB hS rfl _ _ _ rfl _ rfl 5 _ _ rfl _ (by go_simp; first | exact rfl | exact ⟨rfl, rfl⟩) (by rfl) (by rfl) (by simp [Value.oneCell']) ?_; clear hS; intro w' hS; simp only [List.set_cons_zero, List.set_cons_succ] at hS)) | ((with_reducible refine gL_alloc ?_); (refine sL_alloc hS rfl _ rfl ?_; clear hS; intro b w' hb hS)) | ((with_reducible refine gL_box ?_); (refine sL_box hS rfl _ _ rfl _ (by go_simp; first | exact rfl | exact ⟨rfl, rfl⟩) ?_; clear hS; intro b w' hb hS))) | ((go_at_call 90; refine (hcnt (Init.right (L := [_]) hS.toInit) hma hopK).mono ?_; rintro e w' ⟨J1, L1, v1, rfl, _, hn, hma1⟩; have hle1 := hn.le (Init.right (L := [_]) hS.toInit).hI; replace hS := Nx.callTail (L2 := [_]) hS hn; clear hn); refine Stop.of ?_))
              refine Stop.to ?_
              go_wp2_with (first | (first | ((with_reducible refine gL_load ?_); first | (refine sL_load hS rfl _ _ rfl _ _ rfl 0 _ _ rfl _ rfl ?_) | (refine sL_load hS rfl _ _ rfl _ _ rfl 1 _ _ rfl _ rfl ?_) | (refine sL_load hS rfl _ _ rfl _ _ rfl 2 _ _ rfl _ rfl ?_) | (refine sL_load hS rfl _ _ rfl _ _ rfl 3 _ _ rfl _ rfl ?_) | (refine sL_load hS rfl _ _ rfl _ _ rfl 4 _ _ rfl _ rfl ?_) | (refine sL_load hS rfl _ _ rfl _ _ rfl 5 _ _ rfl _ rfl ?_) | (refine sL_loadA hS rfl _ _ rfl _ _ rfl 0 _ _ rfl _ rfl rfl ?_) | (refine sL_loadA hS rfl _ _ rfl _ _ rfl 1 _ _ rfl _ rfl rfl ?_) | (refine sL_loadA hS rfl _ _ rfl _ _ rfl 2 _ _ rfl _ rfl rfl ?_) | (refine sL_loadA hS rfl _ _ rfl _ _ rfl 3 _ _ rfl _ rfl rfl ?_) | (refine sL_loadA hS rfl _ _ rfl _ _ rfl 4 _ _ rfl _ rfl rfl ?_) | (refine sL_loadA hS rfl _ _ rfl _ _ rfl 5 _ _ rfl _ rfl rfl ?_)) | ((with_reducible refine gL_store ?_); first | (refine sL_store hS rfl _ _ _ rfl _ _ rfl 0 _ _ rfl _ (by go_simp; first | exact rfl | exact ⟨rfl, rfl⟩) rfl (by simp) ?_; clear hS; intro w' hS; simp only [List.set_cons_zero] at hS) | (refine sL_store hS rfl _ _ _ rfl _ _ rfl 1 _ _ rfl _ (by go_simp; first | exact rfl | exact ⟨rfl, rfl⟩) rfl (by simp) ?_; clear hS; intro w' hS; simp only [List.set_cons_zero, List.set_cons_succ] at hS) | (refine sL_store hS rfl _ _ _ rfl _ _ rfl 2 _ _ rfl _ (by go_simp; first | exact rfl | exact ⟨rfl, rfl⟩) rfl (by simp) ?_; clear hS; intro w' hS; simp only [List.set_cons_zero, List.set_cons_succ] at hS) | (refine sL_store hS rfl _ _ _ rfl _ _ rfl 3 _ _ rfl _ (by go_simp; first | exact rfl | exact ⟨rfl, rfl⟩) rfl (by simp) ?_; clear hS; intro w' hS; simp only [List.set_cons_zero, List.set_cons_succ] at hS) | (refine sL_store hS rfl _ _ _ rfl _ _ rfl 4 _ _ rfl _ (by go_simp; first | exact rfl | exact ⟨rfl, rfl⟩) rfl (by simp) ?_; clear hS; intro w' hS; simp only [List.set_cons_zero, List.set_cons_succ] at hS) | (refine sL_store hS rfl _ _ _ rfl _ _ rfl 5 _ _ rfl _ (by go_simp; first | exact rfl | exact ⟨rfl, rfl⟩) rfl (by simp) ?_; clear hS; intro w' hS; simp only [List.set_cons_zero, List.set_cons_succ] at hS) | (refine sL_storeB hS rfl _ _ _ rfl _ rfl 0 _ _ rfl _ (by go_simp; first | exact rfl | exact ⟨rfl, rfl⟩) (by rfl) (by rfl) (by simp [Value.oneCell']) ?_; clear hS; intro w' hS; simp only [List.set_cons_zero] at hS) | (refine sL_storeB hS rfl _ _ _ rfl _ rfl 1 _ _ rfl _ (by go_simp; first | exact rfl | exact ⟨rfl, rfl⟩) (by rfl) (by rfl) (by simp [Value.oneCell']) ?_; clear hS; intro w' hS; simp only [List.set_cons_zero, List.set_cons_succ] at hS) | (refine sL_storeB hS rfl _ _ _ rfl _ rfl 2 _ _ rfl _ (by go_simp; first | exact rfl | exact ⟨rfl, rfl⟩) (by rfl) (by rfl) (by simp [Value.oneCell']) ?_; clear hS; intro w' hS; simp only [List.set_cons_zero, List.set_cons_succ] at hS) | (refine sL_storeB hS rfl _ _ _ rfl _ rfl 3 _ _ rfl _ (by go_simp; first | exact rfl | exact ⟨rfl, rfl⟩) (by rfl) (by rfl) (by simp [Value.oneCell']) ?_; clear hS; intro w' hS; simp only [List.set_cons_zero, List.set_cons_succ] at hS) | (refine sL_storeB hS rfl _ _ _ rfl _ rfl 4 _ _ rfl _ (by go_simp; first | exact rfl | exact ⟨rfl, rfl⟩) (by rfl) (by rfl) (by simp [Value.oneCell']) ?_; clear hS; intro w' hS; simp only [List.set_cons_zero, List.set_cons_succ] at hS) | (refine sL_storeB hS rfl _ _ _ rfl _ rfl 5 _ _ rfl _ (by go_simp; first | exact rfl | exact ⟨rfl, rfl⟩) (by rfl) (by rfl) (by simp [Value.oneCell']) ?_; clear hS; intro w' hS; simp only [List.set_cons_zero, List.set_cons_succ] at hS)) | ((with_reducible refine gL_alloc ?_); (refine sL_alloc hS rfl _ rfl ?_; clear hS; intro b w' hb hS)) | ((with_reducible refine gL_box ?_); (refine sL_box hS rfl _ _ rfl _ (by go_simp; first | exact rfl | exact ⟨rfl, rfl⟩) ?_; clear hS; intro b w' hb hS))) | (go_at_call 91; refine (hflow (Init.right (L := [_]) hS.toInit) hma1).mono ?_; rintro e w' ⟨J2, L2, v2, rfl, rfl, hn, hma2⟩; have hle2 := hn.le (Init.right (L := [_]) hS.toInit).hI; replace hS := Nx.callTail (L2 := [_]) hS hn; clear hn) | (go_at_call 92; refine (hdoes (Init.right (L := [_]) hS.toInit) hma2).mono ?_; rintro e w' ⟨rfl, rfl⟩; rw [hb]))
              go_roundw
              case rel => exact ⟨i + 1, J2, L2, m2, Hlt.out, by simp, hSn () m2 rfl, hg2, hle.trans (hle1.trans hle2), hma2, hS.drop⟩
              case measure => simp [intOf]; omega
            | true =>
              rw [hb] at hSn hRe hkeep
              simp only [Bool.false_or, Bool.not_true, Bool.false_eq_true, if_false] at hSn hRe hkeep
              have hdo := fun {I : Imm} {w : World} {L : List Item} (hin : Init I L w) (h : MachAt I mb sp dig m2 L) (ho : OpAt I o [bv o.code, .slice da o.data.length dc]) => do_mach_spec hin h hd hg2 ho hdl
              unfold RPost at hdo
              cases hr3 : doM shaH dig o m2 with
              | error e3 =>
                rw [hr3] at hdo hRe
                rw [hRe e3 rfl]
                clear hRe hSn hkeep
                go_wp2_with (first | (refine sL_alloc hS rfl 30 rfl ?_; clear hS; intro ob w' hob hS) | (refine sL_loadIA hS rfl _ _ rfl _ _ rfl _ hatK rfl ?_) | (first | ((with_reducible refine gL_load ?_); first | (refine sL_load hS rfl _ _ rfl _ _ rfl 0 _ _ rfl _ rfl ?_) | (refine sL_load hS rfl _ _ rfl _ _ rfl 1 _ _ rfl _ rfl ?_) | (refine sL_load hS rfl _ _ rfl _ _ rfl 2 _ _ rfl _ rfl ?_) | (refine sL_load hS rfl _ _ rfl _ _ rfl 3 _ _ rfl _ rfl ?_) | (refine sL_load hS rfl _ _ rfl _ _ rfl 4 _ _ rfl _ rfl ?_) | (refine sL_load hS rfl _ _ rfl _ _ rfl 5 _ _ rfl _ rfl ?_) | (refine sL_loadA hS rfl _ _ rfl _ _ rfl 0 _ _ rfl _ rfl rfl ?_) | (refine sL_loadA hS rfl _ _ rfl _ _ rfl 1 _ _ rfl _ rfl rfl ?_) | (refine sL_loadA hS rfl _ _ rfl _ _ rfl 2 _ _ rfl _ rfl rfl ?_) | (refine sL_loadA hS rfl _ _ rfl _ _ rfl 3 _ _ rfl _ rfl rfl ?_) | (refine sL_loadA hS rfl _ _ rfl _ _ rfl 4 _ _ rfl _ rfl rfl ?_) | (refine sL_loadA hS rfl _ _ rfl _ _ rfl 5 _ _ rfl _ rfl rfl ?_)) | ((with_reducible refine gL_store ?_); first | (refine sL_store hS rfl _ _ _ rfl _ _ rfl 0 _ _ rfl _ (by go_simp; first | exact rfl | exact ⟨rfl, rfl⟩) rfl (by simp) ?_; clear hS; intro w' hS; simp only [List.set_cons_zero] at hS) | (refine sL_store hS rfl _ _ _ rfl _ _ rfl 1 _ _ rfl _ (by go_simp; first | exact rfl | exact ⟨rfl, rfl⟩) rfl (by simp) ?_; clear hS; intro w' hS; simp only [List.set_cons_zero, List.set_cons_succ] at hS) | (refine sL_store hS rfl _ _ _ rfl _ _ rfl 2 _ _ rfl _ (by go_simp; first | exact rfl | exact ⟨rfl, rfl⟩) rfl (by simp) ?_; clear hS; intro w' hS; simp only [List.set_cons_zero, List.set_cons_succ] at hS) | (refine sL_store hS rfl _ _ _ rfl _ _ rfl 3 _ _ rfl _ (by go_simp; first | exact rfl | exact ⟨rfl, rfl⟩) rfl (by simp) ?_; clear hS; intro w' hS; simp only [List.set_cons_zero, List.set_cons_succ] at hS) | (refine sL_store hS rfl _ _ _ rfl _ _ rfl 4 _ _ rfl _ (by go_simp; first | exact rfl | exact ⟨rfl, rfl⟩) rfl (by simp) ?_; clear hS; intro w' hS; simp only [List.set_cons_zero, List.set_cons_succ] at hS) | (refine sL_store hS rfl _ _ _ rfl _ _ rfl 5 _ _ rfl _ (by go_simp; first | exact rfl | exact ⟨rfl, rfl⟩) rfl (by simp) ?_; clear hS; intro w' hS; simp only [List.set_cons_zero, List.set_cons_succ] at hS) | (refine sL_storeB hS rfl _ _ _ rfl _ rfl 0 _ _ rfl _ (by go_simp; first | exact rfl | exact ⟨rfl, rfl⟩) (by rfl) (by rfl) (by simp [Value.oneCell']) ?_; clear hS; intro w' hS; simp only [List.set_cons_zero] at hS) | (refine sL_storeB hS rfl _ _ _ rfl _ rfl 1 _ _ rfl _ (by go_simp; first | exact rfl | exact ⟨rfl, rfl⟩) (by rfl) (by rfl) (by simp [Value.oneCell']) ?_; clear hS; intro w' hS; simp only [List.set_cons_zero, List.set_cons_succ] at hS) | (refine sL_storeB hS rfl _ _ _ rfl _ rfl 2 _ _ rfl _ (by go_simp; first | exact rfl | exact ⟨rfl, rfl⟩) (by rfl) (by rfl) (by simp [Value.oneCell']) ?_; clear hS; intro w' hS; simp only [List.set_cons_zero, List.set_cons_succ] at hS) | (refine sL_storeB hS rfl _ _ _ rfl _ rfl 3 _ _ rfl _ (by go_simp; first | exact rfl | exact ⟨rfl, rfl⟩) (by rfl) (by rfl) (by simp [Value.oneCell']) ?_; clear hS; intro w' hS; simp only [List.set_cons_zero, List.set_cons_succ] at hS) | (refine sL_storeB hS rfl _ _ _ rfl _ rfl 4 _ _ rfl _ (by go_simp; first | exact rfl | exact ⟨rfl, rfl⟩) (by rfl) (by rfl) (by simp [Value.oneCell']) ?_; clear hS; intro w' hS; simp only [List.set_cons_zero, List.set_cons_succ] at hS) | (refine sL_storeB hS rfl _ _ _ rfl _ rfl 5 _ _ rfl _ (by go_simp; first | exact rfl | exact ⟨rfl, rfl⟩) (by rfl) (by rfl) (by simp [Value.oneCell']) ?_; clear hS; intro w' hS; simp only [List.set_cons_zero, List.set_cons_succ] at hS)) | ((with_reducible refine gL_alloc ?_); (refine sL_alloc hS rfl _ rfl ?_; clear hS; intro b w' hb hS)) | ((with_reducible refine gL_box ?_); (refine sL_box hS rfl _ _ rfl _ (by go_simp; first | exact rfl | exact ⟨rfl, rfl⟩) ?_; clear hS; intro b w' hb hS))) | ((go_at_call 90; refine (hcnt (Init.right (L := [_]) hS.toInit) hma hopK).mono ?_; rintro e w' ⟨J1, L1, v1, rfl, _, hn, hma1⟩; have hle1 := hn.le (Init.right (L := [_]) hS.toInit).hI; replace hS := Nx.callTail (L2 := [_]) hS hn; clear hn); refine Stop.of ?_))
                refine Stop.to ?_
                go_wp2_with (first | (first | ((with_reducible refine gL_load ?_); first | (refine sL_load hS rfl _ _ rfl _ _ rfl 0 _ _ rfl _ rfl ?_) | (refine sL_load hS rfl _ _ rfl _ _ rfl 1 _ _ rfl _ rfl ?_) | (refine sL_load hS rfl _ _ rfl _ _ rfl 2 _ _ rfl _ rfl ?_) | (refine sL_load hS rfl _ _ rfl _ _ rfl 3 _ _ rfl _ rfl ?_) | (refine sL_load hS rfl _ _ rfl _ _ rfl 4 _ _ rfl _ rfl ?_) | (refine sL_load hS rfl _ _ rfl _ _ rfl 5 _ _ rfl _ rfl ?_) | (refine sL_loadA hS rfl _ _ rfl _ _ rfl 0 _ _ rfl _ rfl rfl ?_) | (refine sL_loadA hS rfl _ _ rfl _ _ rfl 1 _ _ rfl _ rfl rfl ?_) | (refine sL_loadA hS rfl _ _ rfl _ _ rfl 2 _ _ rfl _ rfl rfl ?_) | (refine sL_loadA hS rfl _ _ rfl _ _ rfl 3 _ _ rfl _ rfl rfl ?_) | (refine sL_loadA hS rfl _ _ rfl _ _ rfl 4 _ _ rfl _ rfl rfl ?_) | (refine sL_loadA hS rfl _ _ rfl _ _ rfl 5 _ _ rfl _ rfl rfl ?_)) | ((with_reducible refine gL_store ?_); first | (refine sL_store hS rfl _ _ _ rfl _ _ rfl 0 _ _ rfl _ (by go_simp; first | exact rfl | exact ⟨rfl, rfl⟩) rfl (by simp) ?_; clear hS; intro w' hS; simp only [List.set_cons_zero] at hS) | (refine sL_store hS rfl _ _ _ rfl _ _ rfl 1 _ _ rfl _ (by go_simp; first | exact rfl | exact ⟨rfl, rfl⟩) rfl (by simp) ?_; clear hS; intro w' hS; simp only [List.set_cons_zero, List.set_cons_succ] at hS) | (refine sL_store hS rfl _ _ _ rfl _ _ rfl 2 _ _ rfl _ (by go_simp; first | exact rfl | exact ⟨rfl, rfl⟩) rfl (by simp) ?_; clear hS; intro w' hS; simp only [List.set_cons_zero, List.set_cons_succ] at hS) | (refine sL_store hS rfl _ _ _ rfl _ _ rfl 3 _ _ rfl _ (by go_simp; first | exact rfl | exact ⟨rfl, rfl⟩) rfl (by simp) ?_; clear hS; intro w' hS; simp only [List.set_cons_zero, List.set_cons_succ] at hS) | (refine sL_store hS rfl _ _ _ rfl _ _ rfl 4 _ _ rfl _ (by go_simp; first | exact rfl | exact ⟨rfl, rfl⟩) rfl (by simp) ?_; clear hS; intro w' hS; simp only [List.set_cons_zero, List.set_cons_succ] at hS) | (refine sL_store hS rfl _ _ _ rfl _ _ rfl 5 _ _ rfl _ (by go_simp; first | exact rfl | exact ⟨rfl, rfl⟩) rfl (by simp) ?_; clear hS; intro w' hS; simp only [List.set_cons_zero, List.set_cons_succ] at hS) | (refine sL_storeB hS rfl _ _ _ rfl _ rfl 0 _ _ rfl _ (by go_simp; first | exact rfl | exact ⟨rfl, rfl⟩) (by rfl) (by rfl) (by simp [Value.oneCell']) ?_; clear hS; intro w' hS; simp only [List.set_cons_zero] at hS) | (refine sL_storeB hS rfl _ _ _ rfl _ rfl 1 _ _ rfl _ (by go_simp; first | exact rfl | exact ⟨rfl, rfl⟩) (by rfl) (by rfl) (by simp [Value.oneCell']) ?_; clear hS; intro w' hS; simp only [List.set_cons_zero, List.set_cons_succ] at hS) | (refine sL_storeB hS rfl _ _ _ rfl _ rfl 2 _ _ rfl _ (by go_simp; first | exact rfl | exact ⟨rfl, rfl⟩) (by rfl) (by rfl) (by simp [Value.oneCell']) ?_; clear hS; intro w' hS; simp only [List.set_cons_zero, List.set_cons_succ] at hS) | (refine sL_storeB hS rfl _ _ _ rfl _ rfl 3 _ _ rfl _ (by go_simp; first | exact rfl | exact ⟨rfl, rfl⟩) (by rfl) (by rfl) (by simp [Value.oneCell']) ?_; clear hS; intro w' hS; simp only [List.set_cons_zero, List.set_cons_succ] at hS) | (refine sL_storeB hS rfl _ _ _ rfl _ rfl 4 _ _ rfl _ (by go_simp; first | exact rfl | exact ⟨rfl, rfl⟩) (by rfl) (by rfl) (by simp [Value.oneCell']) ?_; clear hS; intro w' hS; simp only [List.set_cons_zero, List.set_cons_succ] at hS) | (refine sL_storeB hS rfl _ _ _ rfl _ rfl 5 _ _ rfl _ (by go_simp; first | exact rfl | exact ⟨rfl, rfl⟩) (by rfl) (by rfl) (by simp [Value.oneCell']) ?_; clear hS; intro w' hS; simp only [List.set_cons_zero, List.set_cons_succ] at hS)) | ((with_reducible refine gL_alloc ?_); (refine sL_alloc hS rfl _ rfl ?_; clear hS; intro b w' hb hS)) | ((with_reducible refine gL_box ?_); (refine sL_box hS rfl _ _ rfl _ (by go_simp; first | exact rfl | exact ⟨rfl, rfl⟩) ?_; clear hS; intro b w' hb hS))) | (go_at_call 91; refine (hflow (Init.right (L := [_]) hS.toInit) hma1).mono ?_; rintro e w' ⟨J2, L2, v2, rfl, rfl, hn, hma2⟩; have hle2 := hn.le (Init.right (L := [_]) hS.toInit).hI; replace hS := Nx.callTail (L2 := [_]) hS hn; clear hn) | (go_at_call 92; refine (hdoes (Init.right (L := [_]) hS.toInit) hma2).mono ?_; rintro e w' ⟨rfl, rfl⟩; rw [hb]) | (go_at_call 93; refine (hdo (Init.right (L := [_]) hS.toInit) hma2 ((hopK.mono hle1).mono hle2)).mono ?_; rintro e w' ⟨rfl, J3, L3, hn⟩; replace hS := Nx.callTail (L2 := [_]) hS hn; clear hn))
                exact ⟨rfl, rfl, J3, _, hS⟩
              | ok r3 =>
                obtain ⟨u3, m3⟩ := r3
                have hg3 := hkeep u3 m3 hr3
                rw [hr3] at hdo hSn
                clear hRe hkeep hr3
                go_wp2_with (first | (refine sL_alloc hS rfl 30 rfl ?_; clear hS; intro ob w' hob hS) | (refine sL_loadIA hS rfl _ _ rfl _ _ rfl _ hatK rfl ?_) | (first | ((with_reducible refine gL_load ?_); first | (refine sL_load hS rfl _ _ rfl _ _ rfl 0 _ _ rfl _ rfl ?_) | (refine sL_load hS rfl _ _ rfl _ _ rfl 1 _ _ rfl _ rfl ?_) | (refine sL_load hS rfl _ _ rfl _ _ rfl 2 _ _ rfl _ rfl ?_) | (refine sL_load hS rfl _ _ rfl _ _ rfl 3 _ _ rfl _ rfl ?_) | (refine sL_load hS rfl _ _ rfl _ _ rfl 4 _ _ rfl _ rfl ?_) | (refine sL_load hS rfl _ _ rfl _ _ rfl 5 _ _ rfl _ rfl ?_) | (refine sL_loadA hS rfl _ _ rfl _ _ rfl 0 _ _ rfl _ rfl rfl ?_) | (refine sL_loadA hS rfl _ _ rfl _ _ rfl 1 _ _ rfl _ rfl rfl ?_) | (refine sL_loadA hS rfl _ _ rfl _ _ rfl 2 _ _ rfl _ rfl rfl ?_) | (refine sL_loadA hS rfl _ _ rfl _ _ rfl 3 _ _ rfl _ rfl rfl ?_) | (refine sL_loadA hS rfl _ _ rfl _ _ rfl 4 _ _ rfl _ rfl rfl ?_) | (refine sL_loadA hS rfl _ _ rfl _ _ rfl 5 _ _ rfl _ rfl rfl ?_)) | ((with_reducible refine gL_store ?_); first | (refine sL_store hS rfl _ _ _ rfl _ _ rfl 0 _ _ rfl _ (by go_simp; first | exact rfl | exact ⟨rfl, rfl⟩) rfl (by simp) ?_; clear hS; intro w' hS; simp only [List.set_cons_zero] at hS) | (refine sL_store hS rfl _ _ _ rfl _ _ rfl 1 _ _ rfl _ (by go_simp; first | exact rfl | exact ⟨rfl, rfl⟩) rfl (by simp) ?_; clear hS; intro w' hS; simp only [List.set_cons_zero, List.set_cons_succ] at hS) | (refine sL_store hS rfl _ _ _ rfl _ _ rfl 2 _ _ rfl _ (by go_simp; first | exact rfl | exact ⟨rfl, rfl⟩) rfl (by simp) ?_; clear hS; intro w' hS; simp only [List.set_cons_zero, List.set_cons_succ] at hS) | (refine sL_store hS rfl _ _ _ rfl _ _ rfl 3 _ _ rfl _ (by go_simp; first | exact rfl | exact ⟨rfl, rfl⟩) rfl (by simp) ?_; clear hS; intro w' hS; simp only [List.set_cons_zero, List.set_cons_succ] at hS) | (refine sL_store hS rfl _ _ _ rfl _ _ rfl 4 _ _ rfl _ (by go_simp; first | exact rfl | exact ⟨rfl, rfl⟩) rfl (by simp) ?_; clear hS; intro w' hS; simp only [List.set_cons_zero, List.set_cons_succ] at hS) | (refine sL_store hS rfl _ _ _ rfl _ _ rfl 5 _ _ rfl _ (by go_simp; first | exact rfl | exact ⟨rfl, rfl⟩) rfl (by simp) ?_; clear hS; intro w' hS; simp only [List.set_cons_zero, List.set_cons_succ] at hS) | (refine sL_storeB hS rfl _ _ _ rfl _ rfl 0 _ _ rfl _ (by go_simp; first | exact rfl | exact ⟨rfl, rfl⟩) (by rfl) (by rfl) (by simp [Value.oneCell']) ?_; clear hS; intro w' hS; simp only [List.set_cons_zero] at hS) | (refine sL_storeB hS rfl _ _ _ rfl _ rfl 1 _ _ rfl _ (by go_simp; first | exact rfl | exact ⟨rfl, rfl⟩) (by rfl) (by rfl) (by simp [Value.oneCell']) ?_; clear hS; intro w' hS; simp only [List.set_cons_zero, List.set_cons_succ] at hS) | (refine sL_storeB hS rfl _ _ _ rfl _ rfl 2 _ _ rfl _ (by go_simp; first | exact rfl | exact ⟨rfl, rfl⟩) (by rfl) (by rfl) (by simp [Value.oneCell']) ?_; clear hS; intro w' hS; simp only [List.set_cons_zero, List.set_cons_succ] at hS) | (refine sL_storeB hS rfl _ _ _ rfl _ rfl 3 _ _ rfl _ (by go_simp; first | exact rfl | exact ⟨rfl, rfl⟩) (by rfl) (by rfl) (by simp [Value.oneCell']) ?_; clear hS; intro w' hS; simp only [List.set_cons_zero, List.set_cons_succ] at hS) | (refine sL_storeB hS rfl _ _ _ rfl _ rfl 4 _ _ rfl _ (by go_simp; first | exact rfl | exact ⟨rfl, rfl⟩) (by rfl) (by rfl) (by simp [Value.oneCell']) ?_; clear hS; intro w' hS; simp only [List.set_cons_zero, List.set_cons_succ] at hS) | (refine sL_storeB hS rfl _ _ _ rfl _ rfl 5 _ _ rfl _ (by go_simp; first | exact rfl | exact ⟨rfl, rfl⟩) (by rfl) (by rfl) (by simp [Value.oneCell']) ?_; clear hS; intro w' hS; simp only [List.set_cons_zero, List.set_cons_succ] at hS)) | ((with_reducible refine gL_alloc ?_); (refine sL_alloc hS rfl _ rfl ?_; clear hS; intro b w' hb hS)) | ((with_reducible refine gL_box ?_); (refine sL_box hS rfl _ _ rfl _ (by go_simp; first | exact rfl | exact ⟨rfl, rfl⟩) ?_; clear hS; intro b w' hb hS))) | ((go_at_call 90; refine (hcnt (Init.right (L := [_]) hS.toInit) hma hopK).mono ?_; rintro e w' ⟨J1, L1, v1, rfl, _, hn, hma1⟩; have hle1 := hn.le (Init.right (L := [_]) hS.toInit).hI; replace hS := Nx.callTail (L2 := [_]) hS hn; clear hn); refine Stop.of ?_))
                refine Stop.to ?_
                go_wp2_with (first | (first | ((with_reducible refine gL_load ?_); first | (refine sL_load hS rfl _ _ rfl _ _ rfl 0 _ _ rfl _ rfl ?_) | (refine sL_load hS rfl _ _ rfl _ _ rfl 1 _ _ rfl _ rfl ?_) | (refine sL_load hS rfl _ _ rfl _ _ rfl 2 _ _ rfl _ rfl ?_) | (refine sL_load hS rfl _ _ rfl _ _ rfl 3 _ _ rfl _ rfl ?_) | (refine sL_load hS rfl _ _ rfl _ _ rfl 4 _ _ rfl _ rfl ?_) | (refine sL_load hS rfl _ _ rfl _ _ rfl 5 _ _ rfl _ rfl ?_) | (refine sL_loadA hS rfl _ _ rfl _ _ rfl 0 _ _ rfl _ rfl rfl ?_) | (refine sL_loadA hS rfl _ _ rfl _ _ rfl 1 _ _ rfl _ rfl rfl ?_) | (refine sL_loadA hS rfl _ _ rfl _ _ rfl 2 _ _ rfl _ rfl rfl ?_) | (refine sL_loadA hS rfl _ _ rfl _ _ rfl 3 _ _ rfl _ rfl rfl ?_) | (refine sL_loadA hS rfl _ _ rfl _ _ rfl 4 _ _ rfl _ rfl rfl ?_) | (refine sL_loadA hS rfl _ _ rfl _ _ rfl 5 _ _ rfl _ rfl rfl ?_)) | ((with_reducible refine gL_store ?_); first | (refine sL_store hS rfl _ _ _ rfl _ _ rfl 0 _ _ rfl _ (by go_simp; first | exact rfl | exact ⟨rfl, rfl⟩) rfl (by simp) ?_; clear hS; intro w' hS; simp only [List.set_cons_zero] at hS) | (refine sL_store hS rfl _ _ _ rfl _ _ rfl 1 _ _ rfl _ (by go_simp; first | exact rfl | exact ⟨rfl, rfl⟩) rfl (by simp) ?_; clear hS; intro w' hS; simp only [List.set_cons_zero, List.set_cons_succ] at hS) | (refine sL_store hS rfl _ _ _ rfl _ _ rfl 2 _ _ rfl _ (by go_simp; first | exact rfl | exact ⟨rfl, rfl⟩) rfl (by simp) ?_; clear hS; intro w' hS; simp only [List.set_cons_zero, List.set_cons_succ] at hS) | (refine sL_store hS rfl _ _ _ rfl _ _ rfl 3 _ _ rfl _ (by go_simp; first | exact rfl | exact ⟨rfl, rfl⟩) rfl (by simp) ?_; clear hS; intro w' hS; simp only [List.set_cons_zero, List.set_cons_succ] at hS) | (refine sL_store hS rfl _ _ _ rfl _ _ rfl 4 _ _ rfl _ (by go_simp; first | exact rfl | exact ⟨rfl, rfl⟩) rfl (by simp) ?_; clear hS; intro w' hS; simp only [List.set_cons_zero, List.set_cons_succ] at hS) | (refine sL_store hS rfl _ _ _ rfl _ _ rfl 5 _ _ rfl _ (by go_simp; first | exact rfl | exact ⟨rfl, rfl⟩) rfl (by simp) ?_; clear hS; intro w' hS; simp only [List.set_cons_zero, List.set_cons_succ] at hS) | (refine sL_storeB hS rfl _ _ _ rfl _ rfl 0 _ _ rfl _ (by go_simp; first | exact rfl | exact ⟨rfl, rfl⟩) (by rfl) (by rfl) (by simp [Value.oneCell']) ?_; clear hS; intro w' hS; simp only [List.set_cons_zero] at hS) | (refine sL_storeB hS rfl _ _ _ rfl _ rfl 1 _ _ rfl _ (by go_simp; first | exact rfl | exact ⟨rfl, rfl⟩) (by rfl) (by rfl) (by simp [Value.oneCell']) ?_; clear hS; intro w' hS; simp only [List.set_cons_zero, List.set_cons_succ] at hS) | (refine sL_storeB hS rfl _ _ _ rfl _ rfl 2 _ _ rfl _ (by go_simp; first | exact rfl | exact ⟨rfl, rfl⟩) (by rfl) (by rfl) (by simp [Value.oneCell']) ?_; clear hS; intro w' hS; simp only [List.set_cons_zero, List.set_cons_succ] at hS) | (refine sL_storeB hS rfl _ _ _ rfl _ rfl 3 _ _ rfl _ (by go_simp; first | exact rfl | exact ⟨rfl, rfl⟩) (by rfl) (by rfl) (by simp [Value.oneCell']) ?_; clear hS; intro w' hS; simp only [List.set_cons_zero, List.set_cons_succ] at hS) | (refine sL_storeB hS rfl _ _ _ rfl _ rfl 4 _ _ rfl _ (by go_simp; first | exact rfl | exact ⟨rfl, rfl⟩) (by rfl) (by rfl) (by simp [Value.oneCell']) ?_; clear hS; intro w' hS; simp only [List.set_cons_zero, List.set_cons_succ] at hS) | (refine sL_storeB hS rfl _ _ _ rfl _ rfl 5 _ _ rfl _ (by go_simp; first | exact rfl | exact ⟨rfl, rfl⟩) (by rfl) (by rfl) (by simp [Value.oneCell']) ?_; clear hS; intro w' hS; simp only [List.set_cons_zero, List.set_cons_succ] at hS)) | ((with_reducible refine gL_alloc ?_); (refine sL_alloc hS rfl _ rfl ?_; clear hS; intro b w' hb hS)) | ((with_reducible refine gL_box ?_); (refine sL_box hS rfl _ _ rfl _ (by go_simp; first | exact rfl | exact ⟨rfl, rfl⟩) ?_; clear hS; intro b w' hb hS))) | (go_at_call 91; refine (hflow (Init.right (L := [_]) hS.toInit) hma1).mono ?_; rintro e w' ⟨J2, L2, v2, rfl, rfl, hn, hma2⟩; have hle2 := hn.le (Init.right (L := [_]) hS.toInit).hI; replace hS := Nx.callTail (L2 := [_]) hS hn; clear hn) | (go_at_call 92; refine (hdoes (Init.right (L := [_]) hS.toInit) hma2).mono ?_; rintro e w' ⟨rfl, rfl⟩; rw [hb]) | (go_at_call 93; refine (hdo (Init.right (L := [_]) hS.toInit) hma2 ((hopK.mono hle1).mono hle2)).mono ?_; rintro e w' ⟨J3, L3, v3, rfl, _, hn, hma3⟩; have hle3 := hn.le (Init.right (L := [_]) hS.toInit).hI; replace hS := Nx.callTail (L2 := [_]) hS hn; clear hn))
                go_roundw
                case rel => exact ⟨i + 1, J3, L3, m3, Hlt.out, by simp, hSn u3 m3 rfl, hg3, hle.trans (hle1.trans (hle2.trans hle3)), hma3, hS.drop⟩
                case measure => simp [intOf]; omega
    · obtain rfl : i = l.length := by omega
      have hRs : R = if mi.br = [] then .ok ((), mi) else .error 131 := by
        rw [HR.out]; unfold runM; rw [Hst.out, List.drop_length]; rfl
      have hma' := hma
      obtain ⟨ba, bc, L2, rfl, hst⟩ := hma
      have hbr := hgi.br
      have hct := hgi.cnt
      by_cases hb : mi.br = []
      · rw [if_pos hb] at hRs
        rw [hRs]
        have hb0 : (mi.br.length : Int) = 0 := by rw [hb]; rfl
        have hbi : ¬ (0 : Int) < mi.br.length := by omega
        have Hma := Lib.hid hma'
        clear hma' hb0 hb
        go_wp2_with (first | ((with_reducible refine gL_load ?_); refine sL_load hS rfl _ _ rfl _ _ rfl 0 _ _ rfl _ (f33 hd _ _) ?_))
        exact bodyPost_end (results_none rfl _ _ _) rfl ⟨K, _, _, rfl, trivial, hS, Hma.out⟩
      · rw [if_neg hb] at hRs
        rw [hRs]
        have hbi : (0 : Int) < mi.br.length := by have := List.length_pos_iff.2 hb; omega
        clear hma' hb
        go_wp2_with (first | ((with_reducible refine gL_load ?_); refine sL_load hS rfl _ _ rfl _ _ rfl 0 _ _ rfl _ (f33 hd _ _) ?_) | (go_at_call 94; refine (fail_spec (by decide)).mono ?_; rintro e w' ⟨rfl, rfl⟩))
        exact ⟨rfl, rfl, K, _, hS⟩
end Go.Proofs.YtmlgieclkedomaaGreat

namespace Go.Proofs.YtmlgieclkedomaaGreat
open Go Go.RowKit
attribute [local irreducible] shaH

theorem kept_idle {w : World} {p : Value} :
    CallsD Tryz.prog 73 #[p] .returning w fun e u' w' => e = .returned (.tuple #[]) ∧ u' = .returning ∧ w' = w := by
  refine callsD_of_wpS Tryz.func73 rfl fun c₀ cs hu => ?_
  simp only [Tryz.ntmps73, List.size_toArray, List.length_cons, List.length_nil, Nat.reduceAdd, Nat.reduceSub, Array.replicate_succ, Array.replicate_zero, List.push_toArray, List.append_toArray, List.nil_append, List.cons_append]
  apply wpS_seq
  apply wpS_region
  simp [wpOpsS, go_sem, recoverD, hu, Exit.thenS]
  refine wpS_of_wp ?_
  go_wp2
  cases c₀
  simp_all [bodyPostS, results, Tryz.results73]
theorem assert_wrong (w : World) (v : Value) : (Instr.typeAssert (.iface 152 v) 20 152 true).run Tryz.prog w = .ok (.tuple #[v, .bool true]) w := by kernel_rfl
set_option maxRecDepth 10000 in
theorem kept_panicking {I : Imm} {w : World} {eb : Nat} {c0 c : Int} {T : TypeId} (hin : Init I [.blk eb [.int .i64 c0] T] w) :
    CallsD Tryz.prog 73 #[.pointer (some ⟨eb, 0, none⟩)] (.panicking (chainE c)) w fun e u' w' =>
      e = .returned (.tuple #[]) ∧ u' = .panicking [{ v := .iface 152 (.agg #[.int .i64 c]), recovered := true }] ∧ Nx [.blk eb [.int .i64 c0] T] I w I [.blk eb [.int .i64 c] T] w' := by
  have hS := hin.nx
  have hta := fun w => assert_wrong w (.agg #[.int .i64 c])
  refine callsD_of_wpS Tryz.func73 rfl fun c₀ cs hu => ?_
  simp only [Tryz.ntmps73, List.size_toArray, List.length_cons, List.length_nil, Nat.reduceAdd, Nat.reduceSub, Array.replicate_succ, Array.replicate_zero, List.push_toArray, List.append_toArray, List.nil_append, List.cons_append]
  apply wpS_seq
  apply wpS_region
  simp [wpOpsS, go_sem, recoverD, hu, chainE, Exit.thenS]
  refine wpS_of_wp ?_
  go_wp2_with (first | (refine sL_alloc hS rfl 152 rfl ?_; clear hS; intro tb w' htb hS) | ((with_reducible refine gL_store ?_); first | (refine sL_storeB hS rfl _ _ _ rfl _ rfl 0 _ _ rfl [.int .i64 c] rfl rfl rfl (by simp [Value.oneCell']) ?_; clear hS; intro w' hS; simp only [List.set_cons_zero] at hS) | (refine sL_store hS rfl _ _ _ rfl _ _ rfl 1 _ _ rfl (.int .i64 c) rfl rfl (by simp) ?_; clear hS; intro w' hS; simp only [List.set_cons_zero, List.set_cons_succ] at hS)) | ((with_reducible refine gL_load ?_); refine sL_load hS rfl _ _ rfl _ _ rfl 0 _ _ rfl _ rfl ?_))
  have hS2 := hS.drop
  show bodyPostS _ _ _ _ _ _ _ _ _
  simp [bodyPostS, results, Tryz.results73]
  exact ⟨rfl, hS2⟩

set_option maxRecDepth 10000 in
theorem ran_spec {I : Imm} {w : World} {mb sp : Nat} {dig : Bs} {m : PM} {L : List Item} (hin : Init I L w) (h : MachAt I mb sp dig m L) (hd : dig.length = 32) (hg : m.Good) {v : Value} {l : List OpS} (hl : OpsRd I v l) (hol : ∀ o ∈ l, o.data.length ≤ 1000000) :
    Calls Tryz.prog 51 #[.pointer (some ⟨mb, 0, none⟩), v] w fun e w' =>
      match runM shaH dig l m with
      | .error c => e = .returned (.int .i64 c) ∧ ∃ J L', Nx L I w J L' w'
      | .ok (_, m2) => e = .returned (.int .i64 0) ∧ ∃ J L', Nx L I w J L' w' ∧ MachAt J mb sp dig m2 L' := by
  have hS := hin.nx
  have hrun := fun {w : World} (hin : Init I L w) => run_spec (dig := dig) hin h hd hg hl hol
  unfold RPost at hrun
  cases hr : runM shaH dig l m with
  | error c =>
    rw [hr] at hrun
    go_enter_defers Tryz.func51, Tryz.ntmps51
    go_wp2_with (first | (refine sL_alloc hS rfl 26 rfl ?_; clear hS; intro eb w' heb hS) | (go_at_call 74; refine (hrun (Init.right (L := [_]) hS.toInit)).mono ?_; rintro e w' ⟨rfl, J, L1, hn⟩; replace hS := Nx.callTail (L2 := [_]) hS hn; clear hn))
    refine leaves_cons (f := 73) (args := #[.pointer (some ⟨eb, 0, none⟩)]) (by simp) (by simp [go_sem]) ?_
    refine (kept_panicking (Init.left hS.toInit)).mono ?_
    rintro e u' w'' ⟨rfl, rfl, hn⟩
    replace hS := Nx.call (L1 := [_]) hS hn
    have hc := hS.blkCell 0 rfl 0 rfl
    show Leaves _ _ _ _ _ _ _
    refine ⟨.int .i64 c, ?_, rfl, J, _, hS.drop⟩
    simp [results, Tryz.results51, go_sem, hc]
  | ok r =>
    obtain ⟨u, m2⟩ := r
    rw [hr] at hrun
    go_enter_defers Tryz.func51, Tryz.ntmps51
    go_wp2_with (first | (refine sL_alloc hS rfl 26 rfl ?_; clear hS; intro eb w' heb hS) | (go_at_call 74; refine (hrun (Init.right (L := [_]) hS.toInit)).mono ?_; rintro e w' ⟨J, L1, v1, rfl, _, hn, hma⟩; replace hS := Nx.callTail (L2 := [_]) hS hn; clear hn) | ((with_reducible refine gL_store ?_); refine sL_store hS rfl _ _ _ rfl _ _ rfl 0 _ _ rfl (.int .i64 0) rfl rfl (by simp) ?_; clear hS; intro w' hS; simp only [List.set_cons_zero] at hS))
    simp only [List.set_cons_zero, List.cons_append, List.nil_append] at hS
    refine leaves_cons (f := 73) (args := #[.pointer (some ⟨eb, 0, none⟩)]) (by simp) (by simp [go_sem]) ?_
    refine kept_idle.mono ?_
    rintro e u' w'' ⟨rfl, rfl, rfl⟩
    have hc := hS.blkCell 0 rfl 0 rfl
    show Leaves _ _ _ _ _ _ _
    refine ⟨.int .i64 0, ?_, rfl, J, _, hS.drop, hma⟩
    simp [results, Tryz.results51, go_sem, hc]
end Go.Proofs.YtmlgieclkedomaaGreat

namespace Go.Proofs.YtmlgieclkedomaaGreat
open Go Go.RowKit
attribute [local irreducible] shaH

theorem stkAll_spec {I : Imm} {w : World} {sb : Nat} {s o : List Bs} {L : List Item} (hin : Init I L w) (h : StkAt I sb s o L) (hs : s.length ≤ 100000) (hb : ∀ b ∈ s, b.length ≤ 1000000) :
    Calls Tryz.prog 19 #[.pointer (some ⟨sb, 0, none⟩)] w fun e w' => ∃ J ad c xs, e = .returned (.slice ad s.length c) ∧ Nx L I w J (.row 1 22 (.slice ad s.length c) s.length xs :: L) w' ∧ Reps J s xs := by
  obtain ⟨al, ao, cl, co, xl, xo, rfl, hl, ho⟩ := h
  have hS := hin.nx
  refine (All_spec hS.hI (hS.blkCell 0 rfl 0 rfl) (hS.ls (i := 1) rfl hl rfl) hs hb).mono ?_
  rintro e w' ⟨J, ad, c, xs, rfl, hn, hr⟩
  exact ⟨J, ad, c, xs, rfl, hS.pure1 hn, hr⟩

/-- what Run comes to: stacks of its own -/
def RunPost (L : List Item) (I : Imm) (w : World) (r : Except Int (List Bs)) (e : Ending) (w' : World) : Prop :=
  match r with
  | .error c => e = .returned (.tuple #[.pointer none, .int .i64 c]) ∧ ∃ J, Nx L I w J L w'
  | .ok t => ∃ J sp L2, e = .returned (.tuple #[.pointer (some ⟨sp, 0, none⟩), .int .i64 0]) ∧ Nx L I w J (L2 ++ L) w' ∧ StkAt J sp t [] L2

theorem splitG_short (m : Nat) : ∀ s : Bs, s.length ≤ m → ∀ o ∈ (splitG s).1, o.data.length ≤ s.length := by
  induction m with
  | zero =>
    intro s hs
    obtain rfl : s = [] := List.eq_nil_of_length_eq_zero (by omega)
    rw [splitG_nil]; simp
  | succ m ih =>
    intro s hs
    cases s with
    | nil => rw [splitG_nil]; simp
    | cons c l =>
      cases hlb : longB (c :: l) with
      | none => rw [splitG_none hlb]; simp
      | some da =>
        obtain ⟨d, a⟩ := da
        obtain ⟨h1, h2, h3⟩ := longB_le hlb
        rw [splitG_some hlb]
        intro o ho
        rcases List.mem_cons.1 ho with rfl | ho
        · simp; omega
        · have := ih ((c :: l).drop (a + d)) (by rw [List.length_drop]; simp at hs h2 ⊢; omega) o ho
          rw [List.length_drop] at this; omega
theorem splitB_short {s : Bs} {l : List OpS} (h : splitB s = some l) : ∀ o ∈ l, o.data.length ≤ s.length := by
  unfold splitB at h
  split at h
  · cases h; exact splitG_short _ s (Nat.le_refl _)
  · cases h
theorem fold_set (p : Nat) : ∀ (xs : List Value) (k : Nat) (pre mid post : List Value), mid.length = xs.length → pre.length = p + k →
    List.foldl (fun cs x => cs.setIfInBounds (p + x.2) x.1) (pre ++ mid ++ post).toArray (xs.zipIdx k) = (pre ++ xs ++ post).toArray
  | [], k, pre, mid, post, hm, hp => by
    obtain rfl : mid = [] := List.eq_nil_of_length_eq_zero (by simpa using hm)
    simp
  | x :: xs, k, pre, mid, post, hm, hp => by
    cases mid with
    | nil => simp at hm
    | cons y mid =>
      rw [List.zipIdx_cons, List.foldl_cons]
      have e : (pre ++ y :: mid ++ post).toArray.setIfInBounds (p + k) x = (pre ++ [x] ++ mid ++ post).toArray := by
        rw [List.setIfInBounds_toArray, ← hp]
        simp
      rw [e, fold_set p xs (k + 1) (pre ++ [x]) mid post (by simpa using hm) (by simp; omega)]
      simp
theorem machCells {sp : Nat} {dig : Bs} (hd : dig.length = 32) : (List.foldl (fun (cs : Array Value) (x : Value × Nat) => cs.setIfInBounds (1 + x.2) x.1) #[Value.pointer (some ⟨sp, 0, none⟩), Value.int .u8 0, Value.int .u8 0, Value.int .u8 0, Value.int .u8 0, Value.int .u8 0, Value.int .u8 0, Value.int .u8 0, Value.int .u8 0, Value.int .u8 0, Value.int .u8 0, Value.int .u8 0, Value.int .u8 0, Value.int .u8 0, Value.int .u8 0, Value.int .u8 0, Value.int .u8 0, Value.int .u8 0, Value.int .u8 0, Value.int .u8 0, Value.int .u8 0, Value.int .u8 0, Value.int .u8 0, Value.int .u8 0, Value.int .u8 0, Value.int .u8 0, Value.int .u8 0, Value.int .u8 0, Value.int .u8 0, Value.int .u8 0, Value.int .u8 0, Value.int .u8 0, Value.int .u8 0, Value.slice none 0 0, Value.int .i64 0] (bvs dig).zipIdx).toList = .pointer (some ⟨sp, 0, none⟩) :: (bvs dig ++ [.slice none 0 0, .int .i64 0]) := by
  have := fold_set 1 (bvs dig) 0 [Value.pointer (some ⟨sp, 0, none⟩)] (List.replicate 32 (.int .u8 0)) [.slice none 0 0, .int .i64 0] (by simp [hd]) rfl
  simp only [List.replicate_succ, List.replicate_zero, List.cons_append, List.nil_append] at this
  rw [this]
theorem Nx.dropMid {L0 : List Item} {I0 I : Imm} {w0 w : World} (A B : List Item) {C : List Item} (h : Nx L0 I0 w0 I (A ++ (B ++ C)) w) : Nx L0 I0 w0 I (A ++ C) w := by
  refine Nx.dropL (A := B) (h.perm ?_)
  rw [← List.append_assoc, ← List.append_assoc]
  exact List.perm_append_comm.append_right C
set_option maxRecDepth 10000 in
set_option maxHeartbeats 1000000 in
theorem Run_spec {I : Imm} {w : World} {sb : Nat} {s o : List Bs} {L : List Item} (hin : Init I L w) (hst : StkAt I sb s o L) (hs : s.length ≤ 100000) (hb : ∀ b ∈ s, b.length ≤ 1000000) {v : Value} {scr dig : Bs} (hv : RdB I v scr) (hl : scr.length ≤ 1000000) (hd : dig.length = 32) :
    Calls Tryz.prog 17 #[.pointer (some ⟨sb, 0, none⟩), v, hashV dig] w (RunPost L I w (runB shaH s scr dig)) := by
  have hS := hin.nx
  obtain ⟨va, vc, rfl, -, -, -⟩ := hv.ex
  by_cases h1 : scr.length > 520
  · have e : runB shaH s scr dig = .error 134 := by unfold runB; rw [if_pos h1]
    have hi : (520 : Int) < scr.length := by omega
    rw [e]
    go_enter Tryz.func17, Tryz.ntmps17
    go_wp2_with (first | (refine sL_box hS rfl _ _ rfl (bvs dig) rfl ?_; clear hS; intro b5 w' hb5 hS))
    go_ret2
    exact ⟨rfl, I, hS.drop⟩
  · have hi : ¬ (520 : Int) < scr.length := by omega
    have hsplit := fun {w : World} {J : Imm} (hle : I.Le J) (hJ : J.Holds w) => Split_spec hJ (hv.mono hle) hl
    unfold SplitPost at hsplit
    cases hsp : splitB scr with
    | none =>
      rw [hsp] at hsplit
      have e : runB shaH s scr dig = .error 100 := by unfold runB; rw [if_neg h1, hsp]
      rw [e]
      go_enter Tryz.func17, Tryz.ntmps17
      go_wp2_with (first | (refine sL_box hS rfl _ _ rfl (bvs dig) rfl ?_; clear hS; intro b5 w' hb5 hS) | (go_at_call 14; refine (hsplit (Imm.Le.refl _) hS.hI).mono ?_; rintro e w' ⟨rfl, J, hn⟩; replace hS := hS.pure0 hn; clear hn))
      go_ret2
      exact ⟨rfl, J, hS.drop⟩
    | some l =>
      rw [hsp] at hsplit
      have hnew := fun {w : World} {J : Imm} {v : Value} (hJ : J.Holds w) (h : LsAt J w v s) => New_spec hJ h hs
      unfold NewPost at hnew
      cases hnb : newB s with
      | error c =>
        rw [hnb] at hnew
        have e : runB shaH s scr dig = .error c := by unfold runB; rw [if_neg h1, hsp]; simp only; rw [hnb]
        have hc0 : ¬ c = 0 := by
          unfold newB at hnb
          split at hnb
          · cases hnb; decide
          · split at hnb
            · cases hnb; decide
            · cases hnb
        rw [e]
        go_enter Tryz.func17, Tryz.ntmps17
        go_wp2_with (first | (refine sL_box hS rfl _ _ rfl (bvs dig) rfl ?_; clear hS; intro b5 w' hb5 hS) | (go_at_call 14; refine (hsplit (Imm.Le.refl _) hS.hI).mono ?_; rintro e w' ⟨J1, sv, rfl, hn, hops⟩; have hle1 := hn.le hS.hI; replace hS := hS.pure0 hn; clear hn) | (go_at_call 19; refine (stkAll_spec (Init.right (L := [_]) hS.toInit) (hst.mono hle1) hs hb).mono ?_; rintro e w' ⟨J2, aa, ac, xs, rfl, hn, hrs⟩; have hle2 := hn.le (Init.right (L := [_]) hS.toInit).hI; replace hS := Nx.callTail (L2 := [_]) hS hn; clear hn; simp only [List.cons_append, List.nil_append] at hS) | (go_at_call 15; refine (hnew hS.hI (hS.ls (i := 1) rfl hrs rfl)).mono ?_; rintro e w' ⟨rfl, J3, hn⟩; replace hS := hS.pure0 hn; clear hn))
        go_ret2
        exact ⟨rfl, J3, hS.drop.drop⟩
      | ok s2 =>
        obtain ⟨hse, hslen, hsb⟩ : s2 = s ∧ s.length ≤ 100 ∧ ∀ b ∈ s, b.length ≤ 520 := by
          unfold newB at hnb
          split at hnb
          · cases hnb
          · rename_i hany
            split at hnb
            · cases hnb
            · cases hnb
              refine ⟨rfl, by omega, fun b hb => ?_⟩
              rcases Nat.lt_or_ge 520 b.length with h' | h'
              · exact absurd (List.any_eq_true.2 ⟨b, hb, by simpa using h'⟩) hany
              · exact h'
        subst hse
        rw [hnb] at hnew
        have hf0 : ((bvs dig).drop 0).take 32 = bvs dig := by rw [List.drop_zero, List.take_of_length_le (by simp [hd])]
        have hl0 : (bvs dig).length = 32 := by simp [hd]
        have hgood : PM.Good ⟨s2, [], [], 0⟩ := ⟨by simpa using hslen, hsb, by simp, by simp, by simp⟩
        have hran := fun {w : World} {J : Imm} {mb sp : Nat} {v : Value} {L : List Item} (hin : Init J L w) (h : MachAt J mb sp dig ⟨s2, [], [], 0⟩ L) (hl : OpsRd J v l) => ran_spec hin h hd hgood hl (fun o ho => by have := splitB_short hsp o ho; omega)
        have hrunB : runB shaH s2 scr dig = match runM shaH dig l ⟨s2, [], [], 0⟩ with | .error e => .error e | .ok (_, m) => newB m.stk := by unfold runB; rw [if_neg h1, hsp]; first | (simp only [hnb]; done) | (simp only [hnb]; rfl)
        obtain ⟨R, hR⟩ : ∃ R, R = runB shaH s2 scr dig := ⟨_, rfl⟩
        rw [← hR]
        rw [hrunB] at hR
        cases hr : runM shaH dig l ⟨s2, [], [], 0⟩ with
        | error c =>
          rw [hr] at hR
          have hran := fun {w : World} {J : Imm} {mb sp : Nat} {v : Value} {L : List Item} (hin : Init J L w) (h : MachAt J mb sp dig ⟨s2, [], [], 0⟩ L) (hl : OpsRd J v l) => by
            have := hran hin h hl
            rw [hr] at this
            exact this
          simp only at hR
          rw [hR]
          have hc0 := runM_errs (H := shaH) dig l _ c hr
          clear hrunB hR
          go_enter Tryz.func17, Tryz.ntmps17
          go_wp2_with (first | (refine sL_box hS rfl 37 _ rfl (bvs dig) rfl ?_; clear hS; intro b5 w' hb5 hS) | (go_at_call 14; refine (hsplit (Imm.Le.refl _) hS.hI).mono ?_; rintro e w' ⟨J1, sv, rfl, hn, hops⟩; have hle1 := hn.le hS.hI; replace hS := hS.pure0 hn; clear hn) | (go_at_call 19; refine (stkAll_spec (Init.right (L := [_]) hS.toInit) (hst.mono hle1) hs hb).mono ?_; rintro e w' ⟨J2, aa, ac, xs, rfl, hn, hrs⟩; have hle2 := hn.le (Init.right (L := [_]) hS.toInit).hI; replace hS := Nx.callTail (L2 := [_]) hS hn; clear hn; simp only [List.cons_append, List.nil_append] at hS) | ((go_at_call 15; refine (hnew hS.hI (hS.ls (i := 1) rfl hrs rfl)).mono ?_; rintro e w' ⟨J3, sp, al, cl, xl, rfl, hn, hr3⟩; have hle3 := hn.le hS.hI; replace hS := hS.pure hn; clear hn; simp only [List.cons_append, List.nil_append] at hS)) | ((with_reducible refine gL_load ?_); refine sL_loadA hS rfl _ _ rfl _ _ rfl 3 _ _ rfl (bvs dig) hf0 hl0 ?_) | (refine sL_box hS rfl 102 _ rfl _ (machCells hd) ?_; clear hS; intro mb w' hmb hS; refine Stop.of ?_))
          refine Stop.to ?_
          replace hS := hS.nilRow 1 174
          replace hS := hS.perm (List.Perm.swap _ _ _)
          have hma : MachAt J3 mb sp dig ⟨s2, [], [], 0⟩ (machI mb sp dig none 0 0 0 :: .row 1 174 (.slice none 0 0) 0 [] :: stkL sp al none s2.length cl 0 0 xl []) := ⟨none, 0, _, rfl, al, none, cl, 0, xl, [], rfl, hr3, rfl⟩
          have hopsK : OpsRd J3 sv l := by obtain ⟨ys, g1, g2⟩ := hops; exact ⟨ys, (g1.mono hle2).mono hle3, (g2.mono hle2).mono hle3⟩
          go_wp2_with (first | (go_at_call 51; refine (hran (Init.left (M := .blk b5 _ _ :: _) hS.toInit) hma hopsK).mono ?_; rintro e w' ⟨rfl, J4, L4, hn⟩; replace hS := Nx.call (L1 := [_, _, _, _, _]) hS hn; clear hn))
          go_ret2
          exact ⟨rfl, J4, hS.dropL.drop.drop⟩
        | ok r =>
          obtain ⟨u, m2⟩ := r
          rw [hr] at hR
          have hran := fun {w : World} {J : Imm} {mb sp : Nat} {v : Value} {L : List Item} (hin : Init J L w) (h : MachAt J mb sp dig ⟨s2, [], [], 0⟩ L) (hl : OpsRd J v l) => by
            have := hran hin h hl
            rw [hr] at this
            exact this
          simp only at hR
          have hg2 := runM_keeps (H := shaH) hgood (dig := dig) (l := l) u m2 hr
          have hg2l := hg2.many
          have hg2b := hg2.len
          have hnb2 : newB m2.stk = .ok m2.stk := by rw [newB_ok hg2b, if_neg (by omega)]
          have hnew2 := fun {w : World} {J : Imm} {v : Value} (hJ : J.Holds w) (h : LsAt J w v m2.stk) => New_spec hJ h (by omega)
          unfold NewPost at hnew2
          rw [hnb2] at hnew2 hR
          rw [hR]
          clear hrunB hR hnb2
          go_enter Tryz.func17, Tryz.ntmps17
          go_wp2_with (first | (refine sL_box hS rfl 37 _ rfl (bvs dig) rfl ?_; clear hS; intro b5 w' hb5 hS) | (go_at_call 14; refine (hsplit (Imm.Le.refl _) hS.hI).mono ?_; rintro e w' ⟨J1, sv, rfl, hn, hops⟩; have hle1 := hn.le hS.hI; replace hS := hS.pure0 hn; clear hn) | (go_at_call 19; refine (stkAll_spec (Init.right (L := [_]) hS.toInit) (hst.mono hle1) hs hb).mono ?_; rintro e w' ⟨J2, aa, ac, xs, rfl, hn, hrs⟩; have hle2 := hn.le (Init.right (L := [_]) hS.toInit).hI; replace hS := Nx.callTail (L2 := [_]) hS hn; clear hn; simp only [List.cons_append, List.nil_append] at hS) | ((go_at_call 15; refine (hnew hS.hI (hS.ls (i := 1) rfl hrs rfl)).mono ?_; rintro e w' ⟨J3, sp, al, cl, xl, rfl, hn, hr3⟩; have hle3 := hn.le hS.hI; replace hS := hS.pure hn; clear hn; simp only [List.cons_append, List.nil_append] at hS)) | ((with_reducible refine gL_load ?_); refine sL_loadA hS rfl _ _ rfl _ _ rfl 3 _ _ rfl (bvs dig) hf0 hl0 ?_) | (refine sL_box hS rfl 102 _ rfl _ (machCells hd) ?_; clear hS; intro mb w' hmb hS; refine Stop.of ?_))
          refine Stop.to ?_
          replace hS := hS.nilRow 1 174
          replace hS := hS.perm (List.Perm.swap _ _ _)
          have hma : MachAt J3 mb sp dig ⟨s2, [], [], 0⟩ (machI mb sp dig none 0 0 0 :: .row 1 174 (.slice none 0 0) 0 [] :: stkL sp al none s2.length cl 0 0 xl []) := ⟨none, 0, _, rfl, al, none, cl, 0, xl, [], rfl, hr3, rfl⟩
          have hopsK : OpsRd J3 sv l := by obtain ⟨ys, g1, g2⟩ := hops; exact ⟨ys, (g1.mono hle2).mono hle3, (g2.mono hle2).mono hle3⟩
          go_wp2_with (first | ((go_at_call 51; refine (hran (Init.left (M := .blk b5 _ _ :: _) hS.toInit) hma hopsK).mono ?_; rintro e w' ⟨rfl, J4, L4, hn, hma4⟩; replace hS := Nx.call (L1 := [_, _, _, _, _]) hS hn; clear hn); refine Stop.of ?_))
          refine Stop.to ?_
          obtain ⟨ba, bc, L5, rfl, hst5⟩ := hma4
          simp only [List.cons_append, List.nil_append] at hS
          go_wp2_with (first | ((with_reducible refine gL_load ?_); refine sL_load hS rfl _ _ rfl _ _ rfl 0 _ _ rfl _ rfl ?_; replace hS := hS.drop.drop) | (go_at_call 19; refine (stkAll_spec (Init.left hS.toInit) hst5 (by omega) (fun b hb => by have := hg2b b hb; omega)).mono ?_; rintro e w' ⟨J6, ca, cc, ys, rfl, hn, hrs6⟩; replace hS := Nx.call hS hn; clear hn; simp only [List.cons_append, List.nil_append] at hS) | (go_at_call 15; refine (hnew2 hS.hI (hS.ls (i := 0) rfl hrs6 rfl)).mono ?_; rintro e w' ⟨J7, sp7, al7, cl7, xl7, rfl, hn, hr7⟩; replace hS := hS.pure hn; clear hn))
          go_ret2
          have hS2 := Nx.dropMid (stkL sp7 al7 none m2.stk.length cl7 0 0 xl7 []) [_] hS
          have hS3 := Nx.dropMid (stkL sp7 al7 none m2.stk.length cl7 0 0 xl7 []) L5 hS2
          have hS4 := Nx.dropMid (stkL sp7 al7 none m2.stk.length cl7 0 0 xl7 []) [_, _] hS3
          exact ⟨J7, sp7, _, rfl, hS4, al7, none, cl7, 0, xl7, [], rfl, hr7, rfl⟩
end Go.Proofs.YtmlgieclkedomaaGreat

namespace Go.Proofs.YtmlgieclkedomaaGreat
open Go Go.RowKit
attribute [local irreducible] shaH

theorem newB_inv {l s : List Bs} (h : newB l = .ok s) : s = l ∧ l.length ≤ 100 ∧ ∀ b ∈ l, b.length ≤ 520 := by
  unfold newB at h
  split at h
  · cases h
  · rename_i hany
    split at h
    · cases h
    · cases h
      refine ⟨rfl, by omega, fun b hb => ?_⟩
      rcases Nat.lt_or_ge 520 b.length with h' | h'
      · exact absurd (List.any_eq_true.2 ⟨b, hb, by simpa using h'⟩) hany
      · exact h'
theorem newB_err {l : List Bs} {c : Int} (h : newB l = .error c) : ¬ c = 0 := by
  unfold newB at h
  split at h
  · cases h; decide
  · split at h
    · cases h; decide
    · cases h
theorem runB_inv {H : Bs → Bs} {s t : List Bs} {scr dig : Bs} (h : runB H s scr dig = .ok t) : t.length ≤ 100 ∧ ∀ b ∈ t, b.length ≤ 520 := by
  unfold runB at h
  split at h
  · cases h
  · split at h
    · cases h
    · split at h
      · cases h
      · split at h
        · cases h
        · obtain ⟨e, h1, h2⟩ := newB_inv h
          subst e; exact ⟨h1, h2⟩
theorem runB_err {H : Bs → Bs} {s : List Bs} {scr dig : Bs} {c : Int} (h : runB H s scr dig = .error c) : ¬ c = 0 := by
  unfold runB at h
  split at h
  · cases h; decide
  · split at h
    · cases h; decide
    · split at h
      · rename_i hn; cases h; exact newB_err hn
      · split at h
        · rename_i hr; cases h; exact runM_errs _ _ _ _ hr
        · exact newB_err h
def chainRel (H : Bs → Bs) (unlock lock dig : Bs) (i : Nat) (t : List Bs) : Prop :=
  (i = 0 ∧ t = []) ∨ (i = 1 ∧ runB H [] unlock dig = .ok t) ∨ (i = 2 ∧ ∃ s, runB H [] unlock dig = .ok s ∧ runB H s lock dig = .ok t)
theorem LsAt.nil {α : Type} [Rep α] {I : Imm} {w : World} : LsAt (α := α) I w (.slice none 0 0) [] := ⟨none, 0, [], rfl, Nat.le_refl _, by decide, fun _ => rfl, .inl ⟨trivial, rfl⟩, rfl⟩

set_option maxRecDepth 10000 in
set_option maxHeartbeats 1000000 in
theorem Ends_spec {I : Imm} {w : World} (hI : I.Holds w) {vu vl : Value} {unlock lock dig : Bs} (hu : RdB I vu unlock) (hv : RdB I vl lock) (hul : unlock.length ≤ 1000000) (hvl : lock.length ≤ 1000000) (hd : dig.length = 32) :
    Calls Tryz.prog 25 #[vu, vl, hashV dig] w fun e w' => ∃ J, e = .returned (.int .i64 (endsB shaH unlock lock dig)) ∧ Nx [] I w J [] w' := by
  have hS := Nx.nil hI
  obtain ⟨R, hR⟩ : ∃ R, R = endsB shaH unlock lock dig := ⟨_, rfl⟩
  rw [← hR]
  have HR := Lib.hid hR
  clear hR
  obtain ⟨ua, uc, rfl, -, -, -⟩ := hu.ex
  obtain ⟨la, lc, rfl, -, -, -⟩ := hv.ex
  have hl0 : (bvs dig).length = 32 := by simp [hd]
  cases hp : pushesB unlock with
  | false =>
    have e : R = 132 := by rw [HR.out]; unfold endsB; rw [if_pos hp]
    rw [e]
    go_enter Tryz.func25, Tryz.ntmps25
    go_wp2_with (first | (refine sL_box hS rfl 37 _ rfl (bvs dig) rfl ?_; clear hS; intro b5 w' hb5 hS) | (go_at_call 55; refine (Pushes_spec hS.hI hu hul).mono ?_; rintro e w' ⟨J, rfl, hn⟩; rw [hp]; replace hS := hS.pure0 hn; clear hn))
    go_ret
    exact ⟨J, rfl, hS.drop⟩
  | true =>
    have hR2 : R = match runB shaH [] unlock dig with | .error e => e | .ok s => match runB shaH s lock dig with | .error e => e | .ok s => topB s := by
      rw [HR.out]; unfold endsB; rw [if_neg (by rw [hp]; decide)]
      cases runB shaH [] unlock dig with
      | error e => rfl
      | ok s => simp only; cases runB shaH s lock dig <;> rfl
    have HR2 := Lib.hid hR2
    have hnew := fun {w : World} {J : Imm} (hJ : J.Holds w) => New_spec (l := []) hJ (LsAt.nil (w := w)) (by decide)
    have hnb : newB [] = .ok [] := rfl
    unfold NewPost at hnew
    rw [hnb] at hnew
    clear hR2 HR
    go_enter Tryz.func25, Tryz.ntmps25
    go_wp2_with (first | (refine sL_box hS rfl 37 _ rfl (bvs dig) rfl ?_; clear hS; intro b5 w' hb5 hS; obtain ⟨J1, hS1, hle1, hat5⟩ := hS.freezeBlk hb5; clear hS; have hS := hS1; clear hS1) | (go_at_call 55; refine (Pushes_spec hS.hI (hu.mono hle1) hul).mono ?_; rintro e w' ⟨J2, rfl, hn⟩; rw [hp]; have hle2 := hn.le hS.hI; replace hS := hS.pure0 hn; clear hn) | (go_at_call 15; refine (hnew hS.hI).mono ?_; rintro e w' ⟨J3, sp, al, cl, xl, rfl, hn, hr3⟩; have hle3 := hn.le hS.hI; replace hS := hS.pure hn; clear hn; simp only [List.append_nil] at hS) | (((with_reducible refine gL_lit ?_); first | (refine sL_lit0 hS rfl _ rfl ?_; clear hS; intro lb w' hlb hS) | (refine sL_lit1 hS rfl _ _ rfl _ (by go_simp; first | exact rfl | exact ⟨rfl, rfl⟩) rfl ?_; clear hS; intro lb w' hlb hS) | (refine sL_lit2 hS rfl _ _ _ rfl _ _ (by go_simp; first | exact rfl | exact ⟨rfl, rfl⟩) (by go_simp; first | exact rfl | exact ⟨rfl, rfl⟩) rfl rfl ?_; clear hS; intro lb w' hlb hS) | (refine sL_lit12 hS rfl _ _ rfl _ _ (by go_simp; first | exact rfl | exact ⟨rfl, rfl⟩) ?_; clear hS; intro lb w' hlb hS)); obtain ⟨J4, hS4, hle4, hatl⟩ := hS.freezeBlk hlb; clear hS; have hS := hS4; clear hS4))
    have hat5' := ((hat5.mono hle2).mono hle3).mono hle4
    have hst0 : StkAt J4 sp [] [] (stkL sp al none ([] : List Bs).length cl 0 0 xl []) := ⟨al, none, cl, 0, xl, [], rfl, hr3.mono hle4, rfl⟩
    have hleI := ((hle1.trans hle2).trans hle3).trans hle4
    clear hat5 hle1 hle2 hle3 hle4 hr3
    go_loopw [7, 26] (fun v7 v26 wr => ∃ i t K sp Ls, i ≤ 2 ∧ v7 = .pointer (some ⟨sp, 0, none⟩) ∧ v26 = .int .i64 (i : Nat) ∧ chainRel shaH unlock lock dig i t ∧ J4.Le K ∧ StkAt K sp t [] Ls ∧ Nx [] I w K Ls wr) (fun _ v26 _ => 2 - (intOf v26).toNat)
    case atStart => exact ⟨0, [], J4, sp, _, by omega, rfl, rfl, .inl ⟨rfl, rfl⟩, .refl _, hst0, hS⟩
    case round =>
      clear hS hst0
      obtain ⟨i, t, K, sp, Ls, hi, rfl, rfl, hch, hle, hst, hS⟩ := hrel
      have htl : t.length ≤ 100 ∧ ∀ b ∈ t, b.length ≤ 520 := by
        rcases hch with ⟨_, rfl⟩ | ⟨_, h⟩ | ⟨_, s, _, h⟩
        · simp
        · exact runB_inv h
        · exact runB_inv h
      by_cases hlt : i < 2
      · obtain ⟨scr, sa, sc, hcv, hrd, hsl, hnext, herr⟩ : ∃ scr sa sc, [Value.slice ua unlock.length uc, Value.slice la lock.length lc][i]? = some (.slice sa scr.length sc) ∧ RdB I (.slice sa scr.length sc) scr ∧ scr.length ≤ 1000000 ∧ (∀ t2, runB shaH t scr dig = .ok t2 → chainRel shaH unlock lock dig (i + 1) t2) ∧ (∀ e, runB shaH t scr dig = .error e → R = e) := by
          have h01 : i = 0 ∨ i = 1 := by omega
          rcases h01 with rfl | rfl
          · refine ⟨unlock, ua, uc, rfl, hu, hul, ?_, ?_⟩
            · rcases hch with ⟨_, rfl⟩ | ⟨h, _⟩ | ⟨h, _⟩
              · exact fun t2 h => .inr (.inl ⟨rfl, h⟩)
              · cases h
              · cases h
            · rcases hch with ⟨_, rfl⟩ | ⟨h, _⟩ | ⟨h, _⟩
              · intro e h; rw [HR2.out, h]
              · cases h
              · cases h
          · refine ⟨lock, la, lc, rfl, hv, hvl, ?_, ?_⟩
            · rcases hch with ⟨h, _⟩ | ⟨_, h⟩ | ⟨h, _⟩
              · cases h
              · exact fun t2 h2 => .inr (.inr ⟨rfl, t, h, h2⟩)
              · cases h
            · rcases hch with ⟨h, _⟩ | ⟨_, h⟩ | ⟨h, _⟩
              · cases h
              · intro e h2; rw [HR2.out, h]; simp only; rw [h2]
              · cases h
        have hcell := (hatl.mono hle).cell hS.hI i hcv
        rw [Nat.zero_add] at hcell
        have hat5K := hat5'.mono hle
        have hrun := fun {w : World} {L : List Item} (hin : Init K L w) (hst : StkAt K sp t [] L) => Run_spec hin hst (by omega) (fun b hb => by have := htl.2 b hb; omega) (hrd.mono (hleI.trans hle)) hsl hd
        unfold RunPost at hrun
        cases hr : runB shaH t scr dig with
        | error c =>
          rw [hr] at hrun
          have hc0 := runB_err hr
          have HRc := Lib.hid (herr c hr)
          clear hcv hnext herr hatl hat5'
          go_wp2_with (first | ((with_reducible refine gL_load ?_); refine sL_loadC rfl _ _ rfl _ _ rfl _ hcell ?_) | (refine sL_loadIA hS rfl _ _ rfl _ _ rfl _ hat5K hl0 ?_) | (go_at_call 17; refine (hrun hS.toInit hst).mono ?_; rintro e w' ⟨rfl, J6, hn⟩; replace hS := hS.trans hn; clear hn))
          go_ret
          rw [HRc.out]
          exact ⟨J6, rfl, Nx.toNil hS⟩
        | ok t2 =>
          rw [hr] at hrun
          have hnx := hnext t2 hr
          clear hcv hnext herr hatl hat5'
          go_wp2_with (first | ((with_reducible refine gL_load ?_); refine sL_loadC rfl _ _ rfl _ _ rfl _ hcell ?_) | (refine sL_loadIA hS rfl _ _ rfl _ _ rfl _ hat5K hl0 ?_) | (go_at_call 17; refine (hrun hS.toInit hst).mono ?_; rintro e w' ⟨J6, sp2, L2, rfl, hn, hst2⟩; have hle6 := hn.le hS.hI; replace hS := hS.trans hn; clear hn))
          go_roundw
          case rel => exact ⟨i + 1, t2, J6, sp2, L2, hlt, rfl, by simp, hnx, hle.trans hle6, hst2, hS.left⟩
          case measure => simp [intOf]; omega
      · obtain rfl : i = 2 := by omega
        obtain ⟨s, h1, h2⟩ : ∃ s, runB shaH [] unlock dig = .ok s ∧ runB shaH s lock dig = .ok t := by
          rcases hch with ⟨h, _⟩ | ⟨h, _⟩ | ⟨_, h⟩
          · cases h
          · cases h
          · exact h
        have hRt : R = topB t := by rw [HR2.out, h1]; simp only; rw [h2]
        have HRt := Lib.hid hRt
        clear hRt
        clear h1 h2 hch hatl hat5'
        rcases stk_cases t with rfl | ⟨s2, b, rfl⟩
        · go_wp2_with (first | (go_at_call 56; refine (TopE_spec hS.toInit hst).mono ?_; rintro e w' ⟨rfl, hn⟩; replace hS := hS.trans hn; clear hn))
          go_ret
          rw [HRt.out]
          exact ⟨K, rfl, Nx.toNil hS⟩
        · have htb : topB (s2 ++ [b]) = if trueB b then 0 else 132 := by unfold topB; simp
          rw [htb] at HRt
          have hbl := htl.2 b (by simp)
          have hsl2 : s2.length ≤ 100 := by have := htl.1; simp at this; omega
          cases hb : trueB b with
          | true =>
            go_wp2_with (first | (go_at_call 56; refine (TopS_spec hS.toInit hst (by omega) (by omega)).mono ?_; rintro e w' ⟨ta, tc, J7, rfl, hn, hrd7⟩; replace hS := hS.trans hn; clear hn) | (go_at_call 16; refine (True_spec hS.hI hrd7 (by omega)).mono ?_; rintro e w' ⟨rfl, rfl⟩; rw [hb]))
            go_ret
            rw [HRt.out, hb]
            exact ⟨J7, rfl, Nx.toNil hS⟩
          | false =>
            go_wp2_with (first | (go_at_call 56; refine (TopS_spec hS.toInit hst (by omega) (by omega)).mono ?_; rintro e w' ⟨ta, tc, J7, rfl, hn, hrd7⟩; replace hS := hS.trans hn; clear hn) | (go_at_call 16; refine (True_spec hS.hI hrd7 (by omega)).mono ?_; rintro e w' ⟨rfl, rfl⟩; rw [hb]))
            go_ret
            rw [HRt.out, hb]
            exact ⟨J7, rfl, Nx.toNil hS⟩
end Go.Proofs.YtmlgieclkedomaaGreat

namespace Go.Proofs.YtmlgieclkedomaaGreat
open Go Go.RowKit
theorem flat_one : ∀ (vs : List Value), (∀ v ∈ vs, v.oneCell' = true) → vs.flatMap (fun v => v.cells.toList) = vs
  | [], _ => rfl
  | v :: vs, h => by
    rw [List.flatMap_cons, flat_one vs (fun u hu => h u (List.mem_cons_of_mem _ hu)), cells_one' (h v List.mem_cons_self)]
    rfl
section
variable {P : Program} {ρ : Operand → Value} {o : Oper} {w : World}
theorem ex_litM (T : TypeId) (n : Nat) (ps : Array (Nat × Operand)) (ho : o.op = .buildSlice T n ps) {e bytes : Nat} [hT : SliceT P T e 1 bytes] (vs : List Value) (hps : (ps.toList.map fun x => (x.1, ρ x.2)) = (vs.zipIdx 0).map fun x => (x.2, x.1)) (hn : vs.length = n) (hn0 : 0 < n) (hn1 : n ≤ 10000) (h1 : ∀ v ∈ vs, v.oneCell' = true) :
    (execOp ρ o).run P w = .ok (.value (.slice (some ⟨w.heap.size, 0, none⟩) n n)) (w.alloc (.cells vs.toArray e)) := by
  refine ex_lit T n ps ho (by omega) (by omega) vs.toArray (fun z hz => ?_)
  have h := Go.Great.fill_whole (by decide : 0 < 1) vs ((Array.range (n * 1)).map (z.cells[· % z.cells.size]!)) (fun v hv => by rw [cells_one' (h1 v hv)]; rfl) (by simp [hn])
  have e2 : (ps.map fun (i, x) => (i, ρ x)).toList = (vs.zipIdx 0).map fun x => (x.2, x.1) := by rw [Array.toList_map]; exact hps
  rw [e2, h, flat_one vs h1]
end
section
variable {P : Program} {ops : Array Oper} {Q : Exit → Act → World → Prop} {a : Act} {w : World} {rest : List Oper} {o : Oper} {L0 : List Item} {I0 I : Imm} {w0 : World} {L : List Item}
theorem sL_litM (h : Nx L0 I0 w0 I L w) (hg : Region.wanted o (yielded ops a.tmps) = true) (T : TypeId) (n : Nat) (ps : Array (Nat × Operand)) (ho : o.op = .buildSlice T n ps) {e bytes : Nat} [hT : SliceT P T e 1 bytes] (vs : List Value) (hps : (ps.toList.map fun x => (x.1, a.eval x.2)) = (vs.zipIdx 0).map fun x => (x.2, x.1)) (hn : vs.length = n) (hn0 : 0 < n) (hn1 : n ≤ 10000) (h1 : ∀ v ∈ vs, v.oneCell' = true)
    (k : ∀ b w', w0.heap.size ≤ b → Nx L0 I0 w0 I (.blk b vs e :: L) w' → wpList P ops Q rest (a.put o.dst (.slice (some ⟨b, 0, none⟩) n n)) w') : wpList P ops Q (o :: rest) a w :=
  wpL_of hg (ex_litM T n ps ho vs hps hn hn0 hn1 h1) (fun _ _ => Oper.semAt_eq _ _ _ (by simp [ho])) (fun _ => by simp [Oper.about, ho]) (k _ _ h.ev.size (h.alloc _ _))
end
/-- a block of bytes, read as a slice -/
theorem RdB.ofBlk {J : Imm} {b n : Nat} {l : List UInt8} (h : J.At b 0 (bvs l)) (hn : l.length = n) (hm : n ≤ 1000000) : RdB J (.slice (some ⟨b, 0, none⟩) n n) l := by
  subst hn
  exact ⟨_, _, rfl, Nat.le_refl _, by unfold maxLen; omega, .inr ⟨b, 0, rfl, h⟩⟩
end Go.Proofs.YtmlgieclkedomaaGreat

namespace Go.Proofs.YtmlgieclkedomaaGreat
open Go Go.RowKit
attribute [local irreducible] shaH

def zero32 : Bs := List.replicate 32 0
theorem zero32_len : zero32.length = 32 := by decide
theorem alive13_one : endsB shaH [82, 83] [147, 85, 135] zero32 = 0 := by decide +kernel
theorem alive13_two : endsB shaH [82, 83] [147, 86, 135] zero32 = 132 := by decide +kernel
set_option maxRecDepth 10000 in
theorem alive13_spec {I : Imm} {w : World} (hI : I.Holds w) :
    Calls Tryz.prog 13 #[] w fun e w' => ∃ J, e = .returned (.bool true) ∧ Nx [] I w J [] w' := by
  have hS := Nx.nil hI
  have h1 := fun {I : Imm} {w : World} (hI : I.Holds w) {vu vl : Value} (hu : RdB I vu [82, 83]) (hv : RdB I vl [147, 85, 135]) => Ends_spec hI hu hv (by decide) (by decide) zero32_len
  have h2 := fun {I : Imm} {w : World} (hI : I.Holds w) {vu vl : Value} (hu : RdB I vu [82, 83]) (hv : RdB I vl [147, 86, 135]) => Ends_spec hI hu hv (by decide) (by decide) zero32_len
  rw [alive13_one] at h1
  rw [alive13_two] at h2
  go_enter Tryz.func13, Tryz.ntmps13
  go_wp2_with (first | (((with_reducible refine gL_lit ?_); refine sL_litM hS rfl _ _ _ rfl (bvs [147, 85, 135]) rfl rfl (by decide) (by decide) (bvs_one _) ?_; clear hS; intro b1 w' hb1 hS); obtain ⟨J1, hS1, hle1, hat1⟩ := hS.freezeBlk hb1; clear hS; have hS := hS1; clear hS1; refine Stop.of ?_))
  refine Stop.to ?_
  go_wp2_with (first | (((with_reducible refine gL_lit ?_); refine sL_litM hS rfl _ _ _ rfl (bvs [82, 83]) rfl rfl (by decide) (by decide) (bvs_one _) ?_; clear hS; intro b2 w' hb2 hS); obtain ⟨J2, hS1, hle2, hat2⟩ := hS.freezeBlk hb2; clear hS; have hS := hS1; clear hS1; refine Stop.of ?_))
  refine Stop.to ?_
  go_wp2_with (first | ((go_at_call 25; refine (h1 hS.hI (RdB.ofBlk hat2 rfl (by decide)) (RdB.ofBlk (hat1.mono hle2) rfl (by decide))).mono ?_; rintro e w' ⟨J3, rfl, hn⟩; have hle3 := hn.le hS.hI; replace hS := hS.pure0 hn; clear hn); refine Stop.of ?_))
  refine Stop.to ?_
  go_wp2_with (first | (((with_reducible refine gL_lit ?_); refine sL_litM hS rfl _ _ _ rfl (bvs [82, 83]) rfl rfl (by decide) (by decide) (bvs_one _) ?_; clear hS; intro b4 w' hb4 hS); obtain ⟨J4, hS1, hle4, hat4⟩ := hS.freezeBlk hb4; clear hS; have hS := hS1; clear hS1; refine Stop.of ?_))
  refine Stop.to ?_
  go_wp2_with (first | (((with_reducible refine gL_lit ?_); refine sL_litM hS rfl _ _ _ rfl (bvs [147, 86, 135]) rfl rfl (by decide) (by decide) (bvs_one _) ?_; clear hS; intro b5 w' hb5 hS); obtain ⟨J5, hS1, hle5, hat5⟩ := hS.freezeBlk hb5; clear hS; have hS := hS1; clear hS1; refine Stop.of ?_))
  refine Stop.to ?_
  go_wp2_with (first | ((go_at_call 25; refine (h2 hS.hI (RdB.ofBlk (hat4.mono hle5) rfl (by decide)) (RdB.ofBlk hat5 rfl (by decide))).mono ?_; rintro e w' ⟨J6, rfl, hn⟩; have hle6 := hn.le hS.hI; replace hS := hS.pure0 hn; clear hn); refine Stop.of ?_))
  refine Stop.to ?_
  go_wp2_with fail
  go_ret
  exact ⟨J6, rfl, hS⟩
/-- are elements more than the statements go through? -/
def great13 (l : List Bs) : Bool := l.any (fun b => decide (b.length > 600)) || decide (l.length > 60)
theorem great13_spec {I : Imm} {w : World} (hI : I.Holds w) {v : Value} {l : List Bs} (h : RepsRd I v l) :
    Calls Tryz.prog 20 #[v] w fun e w' => e = .returned (.bool (great13 l)) ∧ w = w' := by
  obtain ⟨ad, c, xs, rfl, k1, k2, k3, hsrc, hreps⟩ := (h.ls hI).ex
  have hml := k2
  unfold maxLen at hml
  go_enter Tryz.func20, Tryz.ntmps20
  go_wp2_with fail
  go_loopw [6] (fun v6 wr => ∃ k, k ≤ l.length ∧ v6 = .int .i64 (k : Nat) ∧ (l.take k).any (fun b => decide (b.length > 600)) = false ∧ w = wr) (fun v6 _ => l.length - (intOf v6).toNat)
  case atStart => exact ⟨0, by omega, rfl, by simp, rfl⟩
  case round =>
    obtain ⟨k, hk, rfl, hno, rfl⟩ := hrel
    by_cases hlt : k < l.length
    · obtain ⟨ea, ec, hxk, hrd⟩ := RepsB.at hreps k hlt
      obtain ⟨x, hx⟩ : ∃ x, x = l[k] := ⟨_, rfl⟩
      rw [← hx] at hxk hrd
      have hany : (l.take (k + 1)).any (fun b => decide (b.length > 600)) = decide (x.length > 600) := by
        rw [List.take_succ_eq_append_getElem hlt, List.any_append, hno, hx]; simp
      have hall : x.length > 600 → great13 l = true := fun h6 => by
        unfold great13
        rw [Bool.or_eq_true]
        exact .inl (List.any_eq_true.2 ⟨x, by rw [hx]; exact List.getElem_mem hlt, by simpa using h6⟩)
      have Hany := Lib.hid hany
      have Hall := Lib.hid hall
      clear hany hall hx hno
      obtain ⟨b0, j0, rfl, hc0⟩ := hsrc.resolve_left (by rintro ⟨_, rfl⟩; simp at hxk)
      have hcell := hc0 k _ hxk
      by_cases h6 : x.length > 600
      · have hi : (600 : Int) < x.length := by omega
        go_wp2_with ((with_reducible refine gL_load ?_); refine sL_loadC rfl _ _ rfl _ _ rfl _ hcell ?_)
        go_ret
        exact ⟨ret_bool (Hall.out h6).symm, rfl⟩
      · have hi : ¬ (600 : Int) < x.length := by omega
        go_wp2_with ((with_reducible refine gL_load ?_); refine sL_loadC rfl _ _ rfl _ _ rfl _ hcell ?_)
        go_roundw
        case rel => exact ⟨k + 1, hlt, by simp, by rw [Hany.out]; simpa using h6, trivial⟩
        case measure => simp [intOf]; omega
    · obtain rfl : k = l.length := by omega
      rw [List.take_length] at hno
      have hg : great13 l = decide (l.length > 60) := by unfold great13; rw [hno]; rfl
      have Hg := Lib.hid hg
      clear hg hno
      go_wp2
      go_ret
      refine ⟨ret_bool ?_, rfl⟩
      rw [Hg.out]
      simp
      omega
theorem codes_spec {I : Imm} {w : World} (hI : I.Holds w) {v u : Value} {a b : Bs} (hA : RdB I v a) (hB : RdB I u b) (hl : a.length + b.length ≤ 1000000) :
    Calls Tryz.prog 23 #[v, u] w fun e w' => ∃ ad c, e = .returned (.slice ad (a ++ b).length c) ∧ Nx [] I w I [brow ad c (a ++ b)] w' := by
  have hS := Nx.nil hI
  obtain ⟨va, vc, rfl, -, -, -⟩ := hA.ex
  obtain ⟨ua, uc, rfl, -, -, -⟩ := hB.ex
  go_enter Tryz.func23, Tryz.ntmps23
  go_wp2_with (first | (((with_reducible refine gL_lit ?_); first | (refine sL_lit0 hS rfl _ rfl ?_; clear hS; intro b w' hb hS) | (refine sL_lit1 hS rfl _ _ rfl _ (by go_simp; first | exact rfl | exact ⟨rfl, rfl⟩) rfl ?_; clear hS; intro b w' hb hS) | (refine sL_lit2 hS rfl _ _ _ rfl _ _ (by go_simp; first | exact rfl | exact ⟨rfl, rfl⟩) (by go_simp; first | exact rfl | exact ⟨rfl, rfl⟩) rfl rfl ?_; clear hS; intro b w' hb hS) | (refine sL_lit12 hS rfl _ _ rfl _ _ (by go_simp; first | exact rfl | exact ⟨rfl, rfl⟩) ?_; clear hS; intro b w' hb hS)); replace hS := hS.litRow 1 0 rfl (by decide); refine Stop.of ?_))
  refine Stop.to ?_
  go_wp2_with (((with_reducible refine gL_app ?_); (refine sL_append hS rfl _ _ _ rfl 0 _ _ _ rfl rfl _ _ _ _ rfl (by first | (simp; done) | (simp only [List.length_map]; omega)) ((hA).src hS.hI) (bvs_one _) (by first | omega | (simp only [List.length_append, List.length_cons, List.length_nil]; omega)) ?_; clear hS; intro ad' c' w' hS hnil hown; simp only [List.set_cons_zero] at hS)); refine Stop.of ?_)
  refine Stop.to ?_
  replace hS := hS.asB a (by simp) (by simp)
  go_wp2_with (first | ((with_reducible refine gL_app ?_); (refine sL_append hS rfl _ _ _ rfl 0 _ _ _ rfl rfl _ _ _ _ rfl (by first | (simp; done) | (simp only [List.length_map]; omega)) ((hB).src hS.hI) (bvs_one _) (by first | omega | (simp only [List.length_append, List.length_cons, List.length_nil]; omega)) ?_; clear hS; intro ad' c' w' hS hnil hown; simp only [List.set_cons_zero] at hS)))
  go_ret
  exact ⟨ad', c', by simp, hS.asB _ (by simp) (by simp [bvs_app])⟩
theorem flatMap_take {f : Bs → Bs} {l : List Bs} {k : Nat} (h : k < l.length) : (l.take (k + 1)).flatMap f = (l.take k).flatMap f ++ f l[k] := by
  rw [List.take_succ_eq_append_getElem h, List.flatMap_append]; simp
theorem flatMap_take_le {f : Bs → Bs} (l : List Bs) (k : Nat) : ((l.take k).flatMap f).length ≤ (l.flatMap f).length := by
  conv => rhs; rw [← List.take_append_drop k l]
  rw [List.flatMap_append, List.length_append]; omega
set_option maxRecDepth 10000 in
set_option maxHeartbeats 1000000 in
theorem push13_spec {I : Imm} {w : World} (hI : I.Holds w) {v : Value} {l : List Bs} (h : LsAt I w v l) (hb : ∀ b ∈ l, b.length ≤ 65535) (hlen : (l.flatMap pushB).length ≤ 100000000) :
    Calls Tryz.prog 22 #[v] w fun e w' => ∃ J ad c, e = .returned (.slice ad (l.flatMap pushB).length c) ∧ Nx [] I w J [brow ad c (l.flatMap pushB)] w' := by
  obtain ⟨va, vc, xs, rfl, k1, k2, k3, hsrc, hreps⟩ := h.ex
  have hml := k2
  unfold maxLen at hml
  have hS := (Nx.nil hI).nilRow 1 5
  go_enter Tryz.func22, Tryz.ntmps22
  go_wp2_with fail
  go_loopw [3, 12] (fun v3 v12 wr => ∃ k out ado co K, k ≤ l.length ∧ Hid (out = (l.take k).flatMap pushB) ∧ v12 = .int .i64 (k : Nat) ∧ v3 = .slice ado out.length co ∧ I.Le K ∧ Nx [] I w K [brow ado co out] wr) (fun _ v12 _ => l.length - (intOf v12).toNat)
  case atStart => exact ⟨0, [], none, 0, I, by omega, Lib.hid rfl, rfl, rfl, .refl _, hS⟩
  case round =>
    clear hS
    obtain ⟨k, out, ado, co, K, hk, Hout, rfl, rfl, hle, hS⟩ := hrel
    by_cases hlt : k < l.length
    · obtain ⟨ea, ec, hxk, hrd⟩ := RepsB.at hreps k hlt
      have hxl := hb _ (List.getElem_mem hlt)
      have hst := flatMap_take (f := pushB) hlt
      have hle2 := flatMap_take_le (f := pushB) l (k + 1)
      rw [hst, List.length_append, ← Hout.out] at hle2
      obtain ⟨x, hx⟩ : ∃ x, x = l[k] := ⟨_, rfl⟩
      rw [← hx] at hxk hrd hxl hst hle2
      rw [← Hout.out] at hst
      have Hst := Lib.hid hst
      obtain ⟨b0, j0, rfl, hc0⟩ := hsrc.resolve_left (by rintro ⟨_, rfl⟩; simp at hxk)
      have hcell := hS.cell0 (hc0 k _ hxk)
      have hmay := Lib.hid (pushOp_may x hxl)
      have hl2 := opBytes_length (pushOp x)
      have hl3 : (opBytes (pushOp x)).length ≤ 65538 := by
        have : (pushOp x).data.length = x.length := rfl
        omega
      obtain ⟨o, ho⟩ : ∃ o, o = pushOp x := ⟨_, rfl⟩
      have hpb : pushB x = opBytes o := by rw [ho, pushB_eq]
      rw [hpb] at hle2
      rw [← ho] at hl3 hmay
      have Ho := Lib.hid ho
      have Hpb := Lib.hid hpb
      have Hlt := Lib.hid hlt
      clear hx hst ho hpb hl2 hb
      go_wp2_with (first | ((with_reducible refine gL_load ?_); refine sL_loadC rfl _ _ rfl _ _ rfl _ hcell ?_) | (refine sL_alloc hS rfl 30 rfl ?_; clear hS; intro ob w' hob hS) | (first | ((with_reducible refine gL_load ?_); first | (refine sL_load hS rfl _ _ rfl _ _ rfl 0 _ _ rfl _ rfl ?_) | (refine sL_load hS rfl _ _ rfl _ _ rfl 1 _ _ rfl _ rfl ?_) | (refine sL_load hS rfl _ _ rfl _ _ rfl 2 _ _ rfl _ rfl ?_) | (refine sL_load hS rfl _ _ rfl _ _ rfl 3 _ _ rfl _ rfl ?_) | (refine sL_load hS rfl _ _ rfl _ _ rfl 4 _ _ rfl _ rfl ?_) | (refine sL_load hS rfl _ _ rfl _ _ rfl 5 _ _ rfl _ rfl ?_) | (refine sL_loadA hS rfl _ _ rfl _ _ rfl 0 _ _ rfl _ rfl rfl ?_) | (refine sL_loadA hS rfl _ _ rfl _ _ rfl 1 _ _ rfl _ rfl rfl ?_) | (refine sL_loadA hS rfl _ _ rfl _ _ rfl 2 _ _ rfl _ rfl rfl ?_) | (refine sL_loadA hS rfl _ _ rfl _ _ rfl 3 _ _ rfl _ rfl rfl ?_) | (refine sL_loadA hS rfl _ _ rfl _ _ rfl 4 _ _ rfl _ rfl rfl ?_) | (refine sL_loadA hS rfl _ _ rfl _ _ rfl 5 _ _ rfl _ rfl rfl ?_)) | ((with_reducible refine gL_store ?_); first | (refine sL_store hS rfl _ _ _ rfl _ _ rfl 0 _ _ rfl _ (by go_simp; first | exact rfl | exact ⟨rfl, rfl⟩) rfl (by simp) ?_; clear hS; intro w' hS; simp only [List.set_cons_zero] at hS) | (refine sL_store hS rfl _ _ _ rfl _ _ rfl 1 _ _ rfl _ (by go_simp; first | exact rfl | exact ⟨rfl, rfl⟩) rfl (by simp) ?_; clear hS; intro w' hS; simp only [List.set_cons_zero, List.set_cons_succ] at hS) | (refine sL_store hS rfl _ _ _ rfl _ _ rfl 2 _ _ rfl _ (by go_simp; first | exact rfl | exact ⟨rfl, rfl⟩) rfl (by simp) ?_; clear hS; intro w' hS; simp only [List.set_cons_zero, List.set_cons_succ] at hS) | (refine sL_store hS rfl _ _ _ rfl _ _ rfl 3 _ _ rfl _ (by go_simp; first | exact rfl | exact ⟨rfl, rfl⟩) rfl (by simp) ?_; clear hS; intro w' hS; simp only [List.set_cons_zero, List.set_cons_succ] at hS) | (refine sL_store hS rfl _ _ _ rfl _ _ rfl 4 _ _ rfl _ (by go_simp; first | exact rfl | exact ⟨rfl, rfl⟩) rfl (by simp) ?_; clear hS; intro w' hS; simp only [List.set_cons_zero, List.set_cons_succ] at hS) | (refine sL_store hS rfl _ _ _ rfl _ _ rfl 5 _ _ rfl _ (by go_simp; first | exact rfl | exact ⟨rfl, rfl⟩) rfl (by simp) ?_; clear hS; intro w' hS; simp only [List.set_cons_zero, List.set_cons_succ] at hS) | (refine sL_storeB hS rfl _ _ _ rfl _ rfl 0 _ _ rfl _ (by go_simp; first | exact rfl | exact ⟨rfl, rfl⟩) (by rfl) (by rfl) (by simp [Value.oneCell']) ?_; clear hS; intro w' hS; simp only [List.set_cons_zero] at hS) | (refine sL_storeB hS rfl _ _ _ rfl _ rfl 1 _ _ rfl _ (by go_simp; first | exact rfl | exact ⟨rfl, rfl⟩) (by rfl) (by rfl) (by simp [Value.oneCell']) ?_; clear hS; intro w' hS; simp only [List.set_cons_zero, List.set_cons_succ] at hS) | (refine sL_storeB hS rfl _ _ _ rfl _ rfl 2 _ _ rfl _ (by go_simp; first | exact rfl | exact ⟨rfl, rfl⟩) (by rfl) (by rfl) (by simp [Value.oneCell']) ?_; clear hS; intro w' hS; simp only [List.set_cons_zero, List.set_cons_succ] at hS) | (refine sL_storeB hS rfl _ _ _ rfl _ rfl 3 _ _ rfl _ (by go_simp; first | exact rfl | exact ⟨rfl, rfl⟩) (by rfl) (by rfl) (by simp [Value.oneCell']) ?_; clear hS; intro w' hS; simp only [List.set_cons_zero, List.set_cons_succ] at hS) | (refine sL_storeB hS rfl _ _ _ rfl _ rfl 4 _ _ rfl _ (by go_simp; first | exact rfl | exact ⟨rfl, rfl⟩) (by rfl) (by rfl) (by simp [Value.oneCell']) ?_; clear hS; intro w' hS; simp only [List.set_cons_zero, List.set_cons_succ] at hS) | (refine sL_storeB hS rfl _ _ _ rfl _ rfl 5 _ _ rfl _ (by go_simp; first | exact rfl | exact ⟨rfl, rfl⟩) (by rfl) (by rfl) (by simp [Value.oneCell']) ?_; clear hS; intro w' hS; simp only [List.set_cons_zero, List.set_cons_succ] at hS)) | ((with_reducible refine gL_alloc ?_); (refine sL_alloc hS rfl _ rfl ?_; clear hS; intro b w' hb hS)) | ((with_reducible refine gL_box ?_); (refine sL_box hS rfl _ _ rfl _ (by go_simp; first | exact rfl | exact ⟨rfl, rfl⟩) ?_; clear hS; intro b w' hb hS))) | ((with_reducible refine gL_lit ?_); refine sL_lit12 hS rfl _ _ rfl (bv o.code) (.slice oa o.data.length oc) rfl ?_; clear hS; intro lb w' hlb hS; refine Stop.of ?_) | (go_at_call 46; refine (Push_spec hS.hI (hrd.mono hle) hxl).mono ?_; rintro e w' ⟨J, vs, rfl, hn, hat⟩; rw [← Ho.out] at hat; have hle3 := hn.le hS.hI; have hS' := hS.pure0 hn; clear hS hn; have hS := hS'; clear hS'; obtain ⟨oa, oc, rfl, hrd2⟩ := hat))
      refine Stop.to ?_
      obtain ⟨K2, hS', hle4, hr⟩ := (hS.litRow 2 1 rfl (by decide)).freezeRow (fun g hg => by cases hg; assumption)
      clear hS
      have hS := hS'
      clear hS'
      have hops : OpsRd K2 (.slice (some ⟨lb, 0, none⟩) 1 1) [o] := ⟨_, hr, _, [], rfl, ⟨oa, oc, rfl, hrd2.mono hle4⟩, rfl⟩
      go_wp2_with (first | (go_at_call 21; refine (Join_spec hS.hI hops (by simpa using hmay.out) (by rw [joinL_one]; omega)).mono ?_; rintro e w' ⟨ja, jc, rfl, hn⟩; rw [joinL_one] at hn ⊢; replace hS := hS.pure1 hn; clear hn) | ((with_reducible refine gL_app ?_); (refine sL_append hS rfl _ _ _ rfl 2 _ _ _ rfl rfl _ _ _ _ rfl (by first | (simp; done) | (simp only [List.length_map]; omega)) (hS.srcRow (i := 0) rfl) (bvs_one _) (by first | omega | (simp only [List.length_append, List.length_cons, List.length_nil]; omega)) ?_; clear hS; intro ad' c' w' hS hnil hown; simp only [List.set_cons_zero, List.set_cons_succ] at hS)))
      go_roundw
      case rel => exact ⟨k + 1, out ++ opBytes o, ad', c', K2, Hlt.out, Lib.hid (by rw [Hst.out, Hpb.out]), by simp, by simp, (hle.trans hle3).trans hle4, hS.drop.drop.asB _ (by simp) (by simp [bvs_app])⟩
      case measure => have := Hlt.out; simp [intOf]; omega
    · obtain rfl : k = l.length := by omega
      have hout : out = l.flatMap pushB := by rw [Hout.out, List.take_length]
      subst hout
      go_wp2
      go_ret
      exact ⟨K, ado, co, rfl, hS⟩
set_option maxRecDepth 10000 in
set_option maxHeartbeats 1000000 in
theorem Same12_spec {I : Imm} {w : World} (hI : I.Holds w) {v u : Value} {a b : List Bs} (ha : LsAt I w v a) (hb : LsAt I w u b) :
    Calls Tryz.prog 18 #[v, u] w fun e w' => e = .returned (.bool (decide (a = b))) ∧ Nx [] I w I [] w' := by
  obtain ⟨va, vc, xs, rfl, k1, k2, k3, hsrc, hreps⟩ := ha.ex
  obtain ⟨ua, uc, ys, rfl, m1, m2, m3, hsrc2, hreps2⟩ := hb.ex
  have hml := k2
  unfold maxLen at hml
  have hS := Nx.nil hI
  by_cases hne : a.length = b.length
  · rw [← hne]
    have HNE := Lib.hid hne
    clear hne
    go_enter Tryz.func18, Tryz.ntmps18
    go_wp2_with fail
    go_loopw [5] (fun v5 wr => ∃ k, k ≤ a.length ∧ v5 = .int .i64 (k : Nat) ∧ Hid (a.take k = b.take k) ∧ Nx [] I w I [] wr) (fun v5 _ => a.length - (intOf v5).toNat)
    case atStart => exact ⟨0, by omega, rfl, Lib.hid (by simp), hS⟩
    case round =>
      clear hS
      obtain ⟨k, hk, rfl, Htk, hS⟩ := hrel
      by_cases hlt : k < a.length
      · have hlt2 : k < b.length := by have := HNE.out; omega
        obtain ⟨ea, ec, hxk, hrd⟩ := RepsB.at hreps k hlt
        obtain ⟨fa, fc, hyk, hrd2⟩ := RepsB.at hreps2 k hlt2
        obtain ⟨x, hx⟩ : ∃ x, x = a[k] := ⟨_, rfl⟩
        obtain ⟨y, hy⟩ : ∃ y, y = b[k] := ⟨_, rfl⟩
        have hst1 : a.take (k + 1) = a.take k ++ [x] := by rw [List.take_succ_eq_append_getElem hlt, hx]
        have hst2 : b.take (k + 1) = b.take k ++ [y] := by rw [List.take_succ_eq_append_getElem hlt2, hy]
        rw [← hx] at hxk hrd
        rw [← hy] at hyk hrd2
        have hxy : ¬ x = y → a ≠ b := fun h e => by
          subst e
          exact h (hx.trans hy.symm)
        obtain ⟨b0, j0, rfl, hc0⟩ := hsrc.resolve_left (by rintro ⟨_, rfl⟩; simp at hxk)
        obtain ⟨b1, j1, rfl, hc1⟩ := hsrc2.resolve_left (by rintro ⟨_, rfl⟩; simp at hyk)
        have hcell := hS.cell0 (hc0 k _ hxk)
        have hcell2 := hS.cell0 (hc1 k _ hyk)
        have Hst1 := Lib.hid hst1
        have Hst2 := Lib.hid hst2
        have Hxy := Lib.hid hxy
        have Hlt := Lib.hid hlt
        clear hx hy hst1 hst2 hxy
        have heq : (ByteArray.toList ⟨x.toArray⟩ == ByteArray.toList ⟨y.toArray⟩) = decide (x = y) := bstr_inj
        by_cases he : x = y
        · subst he
          go_wp2_with fail
          replace hS := hS.drew
          refine rg_start (fun w => w.cell? ⟨b0, j0 + k, none⟩ = some (.slice ea x.length ec) ∧ w.cell? ⟨b1, j1 + k, none⟩ = some (.slice fa x.length fc) ∧ I.Holds w) [8, 9, 10] (by kernel_rfl) ?_
          -- P0 P1 P2 P5 P6 P7 L3 P4 L8 P9 P10
          (refine rg_pure (v := ?v0u1) 0 rfl (by kernel_rfl) (fun _ _ _ h => h) rfl ?hy0u1 ?rest0u1; (case hy0u1 => (intro w; go_simp; try with_reducible rfl)); (try simp only [Act.put, List.setIfInBounds_toArray, List.set_cons_zero, List.set_cons_succ]))
          (refine rg_pure (v := ?v1u1) 1 rfl (by kernel_rfl) (fun _ _ _ h => h) rfl ?hy1u1 ?rest1u1; (case hy1u1 => (intro w; go_simp; try with_reducible rfl)); (try simp only [Act.put, List.setIfInBounds_toArray, List.set_cons_zero, List.set_cons_succ]))
          (refine rg_pure (v := ?v2u1) 2 rfl (by kernel_rfl) (fun _ _ _ h => h) rfl ?hy2u1 ?rest2u1; (case hy2u1 => (intro w; go_simp; try with_reducible rfl)); (try simp only [Act.put, List.setIfInBounds_toArray, List.set_cons_zero, List.set_cons_succ]))
          (refine rg_pure (v := ?v5u1) 5 rfl (by kernel_rfl) (fun _ _ _ h => h) rfl ?hy5u1 ?rest5u1; (case hy5u1 => (intro w; go_simp; try with_reducible rfl)); (try simp only [Act.put, List.setIfInBounds_toArray, List.set_cons_zero, List.set_cons_succ]))
          (refine rg_pure (v := ?v6u1) 6 rfl (by kernel_rfl) (fun _ _ _ h => h) rfl ?hy6u1 ?rest6u1; (case hy6u1 => (intro w; go_simp; try with_reducible rfl)); (try simp only [Act.put, List.setIfInBounds_toArray, List.set_cons_zero, List.set_cons_succ]))
          (refine rg_pure (v := ?v7u1) 7 rfl (by kernel_rfl) (fun _ _ _ h => h) rfl ?hy7u1 ?rest7u1; (case hy7u1 => (intro w; go_simp; try with_reducible rfl)); (try simp only [Act.put, List.setIfInBounds_toArray, List.set_cons_zero, List.set_cons_succ]))
          ((first | (refine rg_load 3 rfl (by kernel_rfl) rfl (by exact ⟨hS.cell0 (hc0 k _ hxk), hS.cell0 (hc1 k _ hyk), hS.hI⟩) _ _ rfl _ _ rfl _ (fun w hS => hS.1) (fun _ _ _ h => h) ?_) | (refine rg_load 3 rfl (by kernel_rfl) rfl (by exact ⟨hS.cell0 (hc0 k _ hxk), hS.cell0 (hc1 k _ hyk), hS.hI⟩) _ _ rfl _ _ rfl _ (fun w hS => hS.2.1) (fun _ _ _ h => h) ?_)); (try simp only [Act.put, List.setIfInBounds_toArray, List.set_cons_zero, List.set_cons_succ]))
          first | (refine rg_str 4 rfl (by kernel_rfl) rfl (by exact ⟨hS.cell0 (hc0 k _ hxk), hS.cell0 (hc1 k _ hyk), hS.hI⟩) _ _ _ rfl _ rfl (fun w hS => hrd.byW hS.2.2) (fun _ _ _ h => h) ?_; (try simp only [Act.put, List.setIfInBounds_toArray, List.set_cons_zero, List.set_cons_succ])) | (refine rg_str 4 rfl (by kernel_rfl) rfl (by exact ⟨hS.cell0 (hc0 k _ hxk), hS.cell0 (hc1 k _ hyk), hS.hI⟩) _ _ _ rfl _ rfl (fun w hS => hrd2.byW hS.2.2) (fun _ _ _ h => h) ?_; (try simp only [Act.put, List.setIfInBounds_toArray, List.set_cons_zero, List.set_cons_succ])) | (refine rg_pure (v := ?v4u1) 4 rfl (by kernel_rfl) (fun _ _ _ h => h) rfl ?hy4u1 ?rest4u1; (case hy4u1 => (intro w; go_simp; try with_reducible rfl)); (try simp only [Act.put, List.setIfInBounds_toArray, List.set_cons_zero, List.set_cons_succ]))
          ((first | (refine rg_load 8 rfl (by kernel_rfl) rfl (by exact ⟨hS.cell0 (hc0 k _ hxk), hS.cell0 (hc1 k _ hyk), hS.hI⟩) _ _ rfl _ _ rfl _ (fun w hS => hS.1) (fun _ _ _ h => h) ?_) | (refine rg_load 8 rfl (by kernel_rfl) rfl (by exact ⟨hS.cell0 (hc0 k _ hxk), hS.cell0 (hc1 k _ hyk), hS.hI⟩) _ _ rfl _ _ rfl _ (fun w hS => hS.2.1) (fun _ _ _ h => h) ?_)); (try simp only [Act.put, List.setIfInBounds_toArray, List.set_cons_zero, List.set_cons_succ]))
          first | (refine rg_str 9 rfl (by kernel_rfl) rfl (by exact ⟨hS.cell0 (hc0 k _ hxk), hS.cell0 (hc1 k _ hyk), hS.hI⟩) _ _ _ rfl _ rfl (fun w hS => hrd.byW hS.2.2) (fun _ _ _ h => h) ?_; (try simp only [Act.put, List.setIfInBounds_toArray, List.set_cons_zero, List.set_cons_succ])) | (refine rg_str 9 rfl (by kernel_rfl) rfl (by exact ⟨hS.cell0 (hc0 k _ hxk), hS.cell0 (hc1 k _ hyk), hS.hI⟩) _ _ _ rfl _ rfl (fun w hS => hrd2.byW hS.2.2) (fun _ _ _ h => h) ?_; (try simp only [Act.put, List.setIfInBounds_toArray, List.set_cons_zero, List.set_cons_succ])) | (refine rg_pureS (v := ?v9u1) 9 rfl (by kernel_rfl) (fun _ _ _ h => h) rfl (by exact ⟨hS.cell0 (hc0 k _ hxk), hS.cell0 (hc1 k _ hyk), hS.hI⟩) ?hy9u1 ?rest9u1; (case hy9u1 => (intro w; go_simp; try with_reducible rfl)); (try simp only [Act.put, List.setIfInBounds_toArray, List.set_cons_zero, List.set_cons_succ]))
          (refine rg_pureS (v := ?v10u1) 10 rfl (by kernel_rfl) (fun _ _ _ h => h) rfl (by exact ⟨hS.cell0 (hc0 k _ hxk), hS.cell0 (hc1 k _ hyk), hS.hI⟩) ?hy10u1 ?rest10u1; (case hy10u1 => (intro w; go_simp; try with_reducible rfl)); (try simp only [Act.put, List.setIfInBounds_toArray, List.set_cons_zero, List.set_cons_succ]))
          refine rg_done (by kernel_rfl) ?_
          go_wp2
          go_roundw
          case rel => exact ⟨k + 1, Hlt.out, by simp, Lib.hid (by rw [Hst1.out, Hst2.out, Htk.out]), hS⟩
          case measure => have := Hlt.out; simp [intOf]; omega
        · have he2 : (x == y) = false := by simpa using he
          go_wp2_with fail
          replace hS := hS.drew
          refine rg_start (fun w => w.cell? ⟨b0, j0 + k, none⟩ = some (.slice ea x.length ec) ∧ w.cell? ⟨b1, j1 + k, none⟩ = some (.slice fa y.length fc) ∧ I.Holds w) [8, 9, 10] (by kernel_rfl) ?_
          -- P0 P1 P2 P5 P6 P7 L3 P4 L8 P9 P10
          (refine rg_pure (v := ?v0u2) 0 rfl (by kernel_rfl) (fun _ _ _ h => h) rfl ?hy0u2 ?rest0u2; (case hy0u2 => (intro w; go_simp; try with_reducible rfl)); (try simp only [Act.put, List.setIfInBounds_toArray, List.set_cons_zero, List.set_cons_succ]))
          (refine rg_pure (v := ?v1u2) 1 rfl (by kernel_rfl) (fun _ _ _ h => h) rfl ?hy1u2 ?rest1u2; (case hy1u2 => (intro w; go_simp; try with_reducible rfl)); (try simp only [Act.put, List.setIfInBounds_toArray, List.set_cons_zero, List.set_cons_succ]))
          (refine rg_pure (v := ?v2u2) 2 rfl (by kernel_rfl) (fun _ _ _ h => h) rfl ?hy2u2 ?rest2u2; (case hy2u2 => (intro w; go_simp; try with_reducible rfl)); (try simp only [Act.put, List.setIfInBounds_toArray, List.set_cons_zero, List.set_cons_succ]))
          (refine rg_pure (v := ?v5u2) 5 rfl (by kernel_rfl) (fun _ _ _ h => h) rfl ?hy5u2 ?rest5u2; (case hy5u2 => (intro w; go_simp; try with_reducible rfl)); (try simp only [Act.put, List.setIfInBounds_toArray, List.set_cons_zero, List.set_cons_succ]))
          (refine rg_pure (v := ?v6u2) 6 rfl (by kernel_rfl) (fun _ _ _ h => h) rfl ?hy6u2 ?rest6u2; (case hy6u2 => (intro w; go_simp; try with_reducible rfl)); (try simp only [Act.put, List.setIfInBounds_toArray, List.set_cons_zero, List.set_cons_succ]))
          (refine rg_pure (v := ?v7u2) 7 rfl (by kernel_rfl) (fun _ _ _ h => h) rfl ?hy7u2 ?rest7u2; (case hy7u2 => (intro w; go_simp; try with_reducible rfl)); (try simp only [Act.put, List.setIfInBounds_toArray, List.set_cons_zero, List.set_cons_succ]))
          ((first | (refine rg_load 3 rfl (by kernel_rfl) rfl (by exact ⟨hS.cell0 (hc0 k _ hxk), hS.cell0 (hc1 k _ hyk), hS.hI⟩) _ _ rfl _ _ rfl _ (fun w hS => hS.1) (fun _ _ _ h => h) ?_) | (refine rg_load 3 rfl (by kernel_rfl) rfl (by exact ⟨hS.cell0 (hc0 k _ hxk), hS.cell0 (hc1 k _ hyk), hS.hI⟩) _ _ rfl _ _ rfl _ (fun w hS => hS.2.1) (fun _ _ _ h => h) ?_)); (try simp only [Act.put, List.setIfInBounds_toArray, List.set_cons_zero, List.set_cons_succ]))
          first | (refine rg_str 4 rfl (by kernel_rfl) rfl (by exact ⟨hS.cell0 (hc0 k _ hxk), hS.cell0 (hc1 k _ hyk), hS.hI⟩) _ _ _ rfl _ rfl (fun w hS => hrd.byW hS.2.2) (fun _ _ _ h => h) ?_; (try simp only [Act.put, List.setIfInBounds_toArray, List.set_cons_zero, List.set_cons_succ])) | (refine rg_str 4 rfl (by kernel_rfl) rfl (by exact ⟨hS.cell0 (hc0 k _ hxk), hS.cell0 (hc1 k _ hyk), hS.hI⟩) _ _ _ rfl _ rfl (fun w hS => hrd2.byW hS.2.2) (fun _ _ _ h => h) ?_; (try simp only [Act.put, List.setIfInBounds_toArray, List.set_cons_zero, List.set_cons_succ])) | (refine rg_pure (v := ?v4u2) 4 rfl (by kernel_rfl) (fun _ _ _ h => h) rfl ?hy4u2 ?rest4u2; (case hy4u2 => (intro w; go_simp; try with_reducible rfl)); (try simp only [Act.put, List.setIfInBounds_toArray, List.set_cons_zero, List.set_cons_succ]))
          ((first | (refine rg_load 8 rfl (by kernel_rfl) rfl (by exact ⟨hS.cell0 (hc0 k _ hxk), hS.cell0 (hc1 k _ hyk), hS.hI⟩) _ _ rfl _ _ rfl _ (fun w hS => hS.1) (fun _ _ _ h => h) ?_) | (refine rg_load 8 rfl (by kernel_rfl) rfl (by exact ⟨hS.cell0 (hc0 k _ hxk), hS.cell0 (hc1 k _ hyk), hS.hI⟩) _ _ rfl _ _ rfl _ (fun w hS => hS.2.1) (fun _ _ _ h => h) ?_)); (try simp only [Act.put, List.setIfInBounds_toArray, List.set_cons_zero, List.set_cons_succ]))
          first | (refine rg_str 9 rfl (by kernel_rfl) rfl (by exact ⟨hS.cell0 (hc0 k _ hxk), hS.cell0 (hc1 k _ hyk), hS.hI⟩) _ _ _ rfl _ rfl (fun w hS => hrd.byW hS.2.2) (fun _ _ _ h => h) ?_; (try simp only [Act.put, List.setIfInBounds_toArray, List.set_cons_zero, List.set_cons_succ])) | (refine rg_str 9 rfl (by kernel_rfl) rfl (by exact ⟨hS.cell0 (hc0 k _ hxk), hS.cell0 (hc1 k _ hyk), hS.hI⟩) _ _ _ rfl _ rfl (fun w hS => hrd2.byW hS.2.2) (fun _ _ _ h => h) ?_; (try simp only [Act.put, List.setIfInBounds_toArray, List.set_cons_zero, List.set_cons_succ])) | (refine rg_pureS (v := ?v9u2) 9 rfl (by kernel_rfl) (fun _ _ _ h => h) rfl (by exact ⟨hS.cell0 (hc0 k _ hxk), hS.cell0 (hc1 k _ hyk), hS.hI⟩) ?hy9u2 ?rest9u2; (case hy9u2 => (intro w; go_simp; try with_reducible rfl)); (try simp only [Act.put, List.setIfInBounds_toArray, List.set_cons_zero, List.set_cons_succ]))
          (refine rg_pureS (v := ?v10u2) 10 rfl (by kernel_rfl) (fun _ _ _ h => h) rfl (by exact ⟨hS.cell0 (hc0 k _ hxk), hS.cell0 (hc1 k _ hyk), hS.hI⟩) ?hy10u2 ?rest10u2; (case hy10u2 => (intro w; go_simp; try with_reducible rfl)); (try simp only [Act.put, List.setIfInBounds_toArray, List.set_cons_zero, List.set_cons_succ]))
          refine rg_done (by kernel_rfl) ?_
          go_wp2
          go_ret
          exact ⟨ret_bool (by simp [Hxy.out he]), hS⟩
      · obtain rfl : k = a.length := by omega
        have heq : a = b := by
          have := Htk.out
          rwa [List.take_length, HNE.out, List.take_length] at this
        subst heq
        go_wp2
        go_ret
        exact ⟨ret_bool (by simp), hS⟩
  · have hnei : ¬ (a.length : Int) = b.length := by omega
    have hab : ¬ a = b := fun e => hne (by rw [e])
    go_enter Tryz.func18, Tryz.ntmps18
    go_wp2
    go_ret
    exact ⟨ret_bool (by simp [hab]), hS⟩
end Go.Proofs.YtmlgieclkedomaaGreat

namespace Go.Proofs.YtmlgieclkedomaaGreat
open Go Go.RowKit

theorem leN_one (x : Nat) (h : x < 256) : leN [UInt8.ofNat x] = x := by
  simp only [leN]; simp; omega
theorem leN_two (x : Nat) (h : x < 65536) : leN [UInt8.ofNat x, UInt8.ofNat (x / 256)] = x := by
  simp only [leN]; simp; omega
theorem opHead_zero {c : UInt8} (h1 : c ≠ 76) (h2 : c ≠ 77) : opHead c = 0 := by unfold opHead; rw [if_neg h2, if_neg h1]
theorem longB_op {o : OpS} (h : opMay o = true) (r : Bs) : longB (opBytes o ++ r) = some (o.data.length, 1 + opHead o.code) := by
  obtain ⟨c, d⟩ := o
  show longB (c :: (opLen ⟨c, d⟩ ++ d ++ r)) = some (d.length, 1 + opHead c)
  rw [longB_cons]
  have hll : (opLen ⟨c, d⟩).length = opHead c := opLen_length ⟨c, d⟩
  have hlen : (opLen ⟨c, d⟩ ++ d ++ r).length = opHead c + d.length + r.length := by simp [hll]; omega
  rw [hlen, if_neg (by omega)]
  have htk : (opLen ⟨c, d⟩ ++ d ++ r).take (opHead c) = opLen ⟨c, d⟩ := by
    rw [List.append_assoc]; exact List.take_left' hll
  rw [htk]
  have hd : (if opHead c > 0 then leN (opLen ⟨c, d⟩) else if c ≤ 75 then c.toNat else 0) = d.length := by
    unfold opMay at h
    simp only at h
    by_cases h1 : c = 76
    · subst h1
      simp at h
      have : opLen ⟨76, d⟩ = [UInt8.ofNat d.length] := by simp [opLen, opHead]
      rw [if_pos (by decide), this, leN_one _ (by omega)]
    · by_cases h2 : c = 77
      · subst h2
        simp at h
        have : opLen ⟨77, d⟩ = [UInt8.ofNat d.length, UInt8.ofNat (d.length / 256)] := by simp [opLen, opHead, List.range_succ]
        rw [if_pos (by decide), this, leN_two _ (by omega)]
      · rw [if_neg h1, if_neg h2] at h
        rw [opHead_zero h1 h2, if_neg (by decide)]
        by_cases h3 : c ≤ 75
        · rw [if_pos h3] at h ⊢
          simpa using Eq.symm (of_decide_eq_true h)
        · rw [if_neg h3] at h ⊢
          simpa using Eq.symm (of_decide_eq_true h)
  rw [hd, if_neg (by omega)]
theorem splitG_op {o : OpS} (h : opMay o = true) (r : Bs) : splitG (opBytes o ++ r) = (o :: (splitG r).1, (splitG r).2) := by
  have hl := longB_op h r
  have e : opBytes o ++ r = o.code :: (opLen o ++ o.data ++ r) := by simp [opBytes]
  rw [e] at hl ⊢
  rw [splitG_some hl]
  have hll := opLen_length o
  have h1 : (o.code :: (opLen o ++ o.data ++ r)).drop (1 + opHead o.code) = o.data ++ r := by
    rw [Nat.add_comm, List.drop_succ_cons, List.append_assoc]; exact List.drop_left' hll
  have h2 : (o.code :: (opLen o ++ o.data ++ r)).drop (1 + opHead o.code + o.data.length) = r := by
    rw [← List.drop_drop, h1]; exact List.drop_left' rfl
  rw [h1, h2, List.take_left' rfl]
theorem splitG_join {l : List OpS} (h : ∀ o ∈ l, opMay o = true) (r : Bs) : splitG (joinL l ++ r) = (l ++ (splitG r).1, (splitG r).2) := by
  induction l with
  | nil => simp [joinL]
  | cons o l ih =>
    have e : joinL (o :: l) ++ r = opBytes o ++ (joinL l ++ r) := by simp [joinL]
    rw [e, splitG_op (h o List.mem_cons_self), ih (fun x hx => h x (List.mem_cons_of_mem _ hx))]
    rfl
theorem splitB_join {l : List OpS} (h : ∀ o ∈ l, opMay o = true) : splitB (joinL l) = some l := by
  have := splitG_join h []
  rw [List.append_nil, splitG_nil, List.append_nil] at this
  unfold splitB
  rw [this]; rfl
theorem pushes_join (l : List Bs) : l.flatMap pushB = joinL (l.map pushOp) := by
  unfold joinL
  rw [List.flatMap_map]
  congr 1
  funext b
  exact pushB_eq b
theorem pushes_may {l : List Bs} (h : ∀ b ∈ l, b.length ≤ 65535) : ∀ o ∈ l.map pushOp, opMay o = true := by
  intro o ho
  obtain ⟨b, hb, rfl⟩ := List.mem_map.1 ho
  exact pushOp_may b (h b hb)
theorem pushB_length (b : Bs) : (pushB b).length ≤ b.length + 3 := by rw [pushB_eq]; exact opBytes_length (pushOp b)
theorem pushCode_le {b : Bs} : (pushCode b).toNat ≤ 77 := by
  unfold pushCode
  split
  · simp; omega
  · split <;> decide
theorem pushOp_value {b : Bs} (h : b.length ≤ 65535) : valueB (pushOp b) = some b := by
  unfold valueB
  have h1 : (pushOp b).code ≤ 77 := by rw [UInt8.le_iff_toNat_le]; exact pushCode_le
  rw [if_neg (by rw [pushOp_may b h]; decide), if_pos h1]
  rfl
section
variable {H : Bs → Bs}
theorem stepM_push {dig b : Bs} {m : PM} (hb : b.length ≤ 520) (hbr : m.br = []) : stepM H dig (pushOp b) m = pushM b m := by
  have hc : countedM (pushOp b) m = .ok ((), m) := by
    unfold countedM
    rw [if_neg (show ¬ (pushOp b).data.length > 520 from by show ¬ b.length > 520; omega), pushOp_value (by omega)]
    rfl
  have hcode := pushCode_le (b := b)
  have hne : ∀ k : UInt8, 77 < k.toNat → (pushOp b).code ≠ k := fun k hk e => by
    have e2 : pushCode b = k := e
    rw [e2] at hcode; omega
  have hf : flowM (pushOp b).code m = .ok (false, m) := by
    unfold flowM
    rw [if_neg (by rintro (h | h); exact hne 99 (by decide) h; exact hne 100 (by decide) h), if_neg (hne 103 (by decide)), if_neg (hne 104 (by decide))]
  have hd : doesM m = true := by unfold doesM; rw [hbr]; rfl
  have hv : verifiedB (pushOp b).code = false := by
    unfold verifiedB
    simp only [decide_eq_false (hne 136 (by decide)), decide_eq_false (hne 157 (by decide)), decide_eq_false (hne 173 (by decide)), decide_eq_false (hne 175 (by decide))]
    rfl
  unfold stepM
  rw [hc]
  simp only [bindM]
  rw [hf]
  simp only [hd, Bool.not_true, Bool.or_false, Bool.false_eq_true, if_false]
  unfold doM doneM
  rw [pushOp_value (by omega)]
  simp only [hv, Bool.false_eq_true, if_false]
  cases pushM b m <;> rfl
theorem stepsM_pushes {dig : Bs} : ∀ (l : List Bs) (m : PM), (∀ b ∈ l, b.length ≤ 520) → m.br = [] → m.stk.length + m.alt.length + l.length ≤ 100 → stepsM H dig (l.map pushOp) m = .ok ((), { m with stk := m.stk ++ l })
  | [], m, _, _, _ => by simp [stepsM, okM]
  | b :: l, m, hb, hbr, hl => by
    simp only [List.length_cons] at hl
    have hb1 := hb b List.mem_cons_self
    have hp : pushM b m = .ok ((), { m with stk := m.stk ++ [b] }) := by
      unfold pushM; rw [if_neg (by omega), if_neg (by omega)]
    rw [List.map_cons, stepsM_cons_ok ((stepM_push hb1 hbr).trans hp), stepsM_pushes l { m with stk := m.stk ++ [b] } (fun x hx => hb x (List.mem_cons_of_mem _ hx)) hbr (by simp; omega)]
    simp
theorem stepsM_append {dig : Bs} : ∀ (a b : List OpS) (m : PM), stepsM H dig (a ++ b) m = bindM (stepsM H dig a m) fun _ m => stepsM H dig b m
  | [], b, m => rfl
  | o :: a, b, m => by
    rw [List.cons_append]
    simp only [stepsM]
    cases stepM H dig o m with
    | error e => rfl
    | ok r => obtain ⟨u, m2⟩ := r; exact stepsM_append a b m2
def dropOp : OpS := ⟨117, []⟩
theorem stepM_drop {dig : Bs} {m : PM} {s : List Bs} {b : Bs} (hs : m.stk = s ++ [b]) (hbr : m.br = []) (hm : m.many + 1 ≤ 100) (hl : m.stk.length + m.alt.length ≤ 100) :
    stepM H dig dropOp m = .ok ((), { m with stk := s, many := m.many + 1 }) := by
  obtain ⟨stk, alt, br, many⟩ := m
  simp only at hs hbr hm hl
  subst hs hbr
  have hc : countedM dropOp ⟨s ++ [b], alt, [], many⟩ = .ok ((), ⟨s ++ [b], alt, [], many + 1⟩) := by
    unfold countedM
    rw [if_neg (by decide), if_pos (by decide)]
    unfold countM
    rw [if_neg (show ¬ many + 1 > 100 by omega)]
  have hf : flowM dropOp.code ⟨s ++ [b], alt, [], many + 1⟩ = .ok (false, ⟨s ++ [b], alt, [], many + 1⟩) := by unfold flowM; rfl
  have hst : stackDo 117 (s ++ [b]) alt = .ok (s, alt) := by
    unfold stackDo
    rw [show leastN 117 = some 1 by decide]
    simp only
    rw [if_neg (by simp)]
    have hd : doS 117 (s ++ [b]) alt = .ok (s, alt) := by
      unfold doS
      rw [show orderN 117 = some [] by decide, show leastN 117 = some 1 by decide]
      simp [butN]
    rw [hd]
    simp only
    rw [if_neg (by simp at hl; omega)]
  unfold stepM
  rw [hc]
  simp only [bindM]
  rw [hf]
  simp only [doesM, List.all_nil, Bool.not_true, Bool.or_false, Bool.false_eq_true, if_false]
  unfold doM doneM
  rw [show valueB dropOp = none by decide]
  simp only [show (leastN dropOp.code).isSome = true by decide, if_true]
  unfold stackM
  show bindM (match stackDo 117 (s ++ [b]) alt with | .error e => .error e | .ok (s, o) => .ok ((), _)) _ = _
  rw [hst]
  simp only [bindM, show verifiedB dropOp.code = false by decide, Bool.false_eq_true, if_false]
  rfl
theorem stepsM_drops {dig : Bs} (n : Nat) : ∀ (l : List Bs) (m : PM) (s : List Bs), l.length = n → m.stk = s ++ l → m.br = [] → m.many + n ≤ 100 → m.stk.length + m.alt.length ≤ 100 → stepsM H dig (List.replicate n dropOp) m = .ok ((), { m with stk := s, many := m.many + n }) := by
  induction n with
  | zero =>
    intro l m s hn hs _ _ _
    obtain rfl : l = [] := List.eq_nil_of_length_eq_zero hn
    obtain ⟨stk, alt, br, many⟩ := m
    simp at hs; subst hs; simp [stepsM, okM]
  | succ n ih =>
    intro l m s hn hs hbr hm hl
    rcases stk_cases l with rfl | ⟨l, b, rfl⟩
    · simp at hn
    have hn' : l.length = n := by simpa using hn
    have hs' : m.stk = (s ++ l) ++ [b] := by rw [hs]; simp
    have hl2 : (s ++ l).length + m.alt.length ≤ 100 := by rw [hs', List.length_append] at hl; omega
    rw [List.replicate_succ, stepsM_cons_ok (stepM_drop hs' hbr (by omega) hl), ih l { m with stk := s ++ l, many := m.many + 1 } s hn' rfl hbr (by show m.many + 1 + n ≤ 100; omega) hl2]
    simp [Nat.add_assoc, Nat.add_comm]
    omega
/-- a script of so many operations, over a stack that may be -/
theorem runB_ops {dig : Bs} {stk : List Bs} {l : List OpS} (hmay : ∀ o ∈ l, opMay o = true) (hl : (joinL l).length ≤ 520) (hs : stk.length ≤ 100) (hb : ∀ b ∈ stk, b.length ≤ 520) :
    runB H stk (joinL l) dig = match runM H dig l ⟨stk, [], [], 0⟩ with | .error e => .error e | .ok (_, m) => newB m.stk := by
  unfold runB
  rw [if_neg (by omega), splitB_join hmay]
  simp only
  rw [newB_ok hb, if_neg (by omega)]
  simp only
  cases runM H dig l ⟨stk, [], [], 0⟩ <;> rfl
theorem newB_ok' {l : List Bs} (h : ∀ b ∈ l, b.length ≤ 520) (hl : l.length ≤ 100) : newB l = .ok l := by rw [newB_ok h, if_neg (by omega)]
theorem runB_pushes {dig : Bs} {stk l : List Bs} (hl : (l.flatMap pushB).length ≤ 520) (hs : stk.length + l.length ≤ 100) (hb : ∀ b ∈ stk, b.length ≤ 520) (hlb : ∀ b ∈ l, b.length ≤ 520) :
    runB H stk (l.flatMap pushB) dig = .ok (stk ++ l) := by
  rw [pushes_join] at hl ⊢
  rw [runB_ops (pushes_may fun b hb => by have := hlb b hb; omega) hl (by omega) hb]
  unfold runM
  rw [stepsM_pushes l _ hlb rfl (by simpa using hs)]
  simp only [bindM, okM, if_true]
  exact newB_ok' (forall_app hb hlb) (by simpa using hs)
theorem joinL_drops (n : Nat) : joinL (List.replicate n dropOp) = List.replicate n 117 := by
  induction n with
  | zero => rfl
  | succ n ih => rw [List.replicate_succ, List.replicate_succ, ← ih]; rfl
theorem runB_drops {dig : Bs} {stk l : List Bs} (hl : (l.flatMap pushB).length + l.length ≤ 520) (hs : stk.length + l.length ≤ 100) (hb : ∀ b ∈ stk, b.length ≤ 520) (hlb : ∀ b ∈ l, b.length ≤ 520) (hn : l.length ≤ 100) :
    runB H stk (l.flatMap pushB ++ List.replicate l.length 117) dig = .ok stk := by
  have hj : l.flatMap pushB ++ List.replicate l.length 117 = joinL (l.map pushOp ++ List.replicate l.length dropOp) := by rw [joinL_append, ← pushes_join, joinL_drops]
  have hlen : (l.flatMap pushB ++ List.replicate l.length 117).length ≤ 520 := by simpa using hl
  rw [hj] at hlen ⊢
  rw [runB_ops (fun o ho => ?_) hlen (by omega) hb]
  · unfold runM
    rw [stepsM_append, stepsM_pushes l _ hlb rfl (by simpa using hs)]
    simp only [bindM]
    rw [stepsM_drops l.length l _ stk rfl rfl rfl (by simpa using hn) (by simpa using hs)]
    simp only [okM, if_true]
    exact newB_ok' hb (by omega)
  · rcases List.mem_append.1 ho with ho | ho
    · exact pushes_may (fun b hb => by have := hlb b hb; omega) o ho
    · rw [(List.mem_replicate.1 ho).2]; decide
end
end Go.Proofs.YtmlgieclkedomaaGreat

namespace Go.Proofs.YtmlgieclkedomaaGreat
open Go Go.RowKit
attribute [local irreducible] shaH

theorem flat_len {l : List Bs} (h : ∀ b ∈ l, b.length ≤ 150) : (l.flatMap pushB).length ≤ 153 * l.length := by
  induction l with
  | nil => simp
  | cons b l ih =>
    have h1 := pushB_length b
    have h2 := h b List.mem_cons_self
    have h3 := ih (fun x hx => h x (List.mem_cons_of_mem _ hx))
    rw [List.flatMap_cons, List.length_append, List.length_cons]
    omega
set_option maxRecDepth 10000 in
set_option maxHeartbeats 1000000 in
theorem ScriptPushes_walk {I : Imm} {w : World} (hI : I.Holds w) {v u : Value} {l more : List Bs} (hl : RepsRd I v l) (hm : RepsRd I u more) :
    Calls Tryz.prog 5 #[v, u] w fun e w' => ∃ J, e = .returned (.bool true) ∧ Nx [] I w J [] w' := by
  have hS := Nx.nil hI
  have hl0 := hl
  have hm0 := hm
  obtain ⟨xl, hrl, hxl⟩ := id hl
  obtain ⟨xm, hrm, hxm⟩ := id hm
  obtain ⟨va, vc, rfl, kv1, kv2, -⟩ := hrl.ex
  obtain ⟨ua, uc, rfl, ku1, ku2, -⟩ := hrm.ex
  have hsrcm := hrm.src hI
  unfold maxLen at kv2 ku2
  have hol := Reps.one hxl
  have hom := Reps.one hxm
  have hll0 := RepsB.len hxl
  have hlm0 := RepsB.len hxm
  have Hll0 := Lib.hid hll0
  have Hlm0 := Lib.hid hlm0
  clear hl hm hll0 hlm0
  by_cases h1 : l.length > 30
  · have h1i : (30 : Int) < l.length := by omega
    go_enter Tryz.func5, Tryz.ntmps5
    go_wp2_with (first | (go_at_call 13; refine (alive13_spec hS.hI).mono ?_; rintro e w' ⟨J1, rfl, hn⟩; replace hS := hS.pure0 hn; clear hn))
    go_ret
    exact ⟨J1, rfl, hS⟩
  have h1i : ¬ (30 : Int) < l.length := by omega
  cases hg : great13 l with
  | true =>
    go_enter Tryz.func5, Tryz.ntmps5
    go_wp2_with (first | (go_at_call 13; refine (alive13_spec hS.hI).mono ?_; rintro e w' ⟨J1, rfl, hn⟩; have hle1 := hn.le hS.hI; replace hS := hS.pure0 hn; clear hn) | (go_at_call 20; refine (great13_spec hS.hI (hl0.mono hle1)).mono ?_; rintro e w' ⟨rfl, rfl⟩; rw [hg]))
    go_ret
    exact ⟨J1, rfl, hS⟩
  | false =>
    by_cases h2 : more.length > 3
    · have h2i : (3 : Int) < more.length := by omega
      go_enter Tryz.func5, Tryz.ntmps5
      go_wp2_with (first | (go_at_call 13; refine (alive13_spec hS.hI).mono ?_; rintro e w' ⟨J1, rfl, hn⟩; have hle1 := hn.le hS.hI; replace hS := hS.pure0 hn; clear hn) | (go_at_call 20; refine (great13_spec hS.hI (hl0.mono hle1)).mono ?_; rintro e w' ⟨rfl, rfl⟩; rw [hg]))
      go_ret
      exact ⟨J1, rfl, hS⟩
    have h2i : ¬ (3 : Int) < more.length := by omega
    go_enter Tryz.func5, Tryz.ntmps5
    go_wp2_with (first | (go_at_call 13; refine (alive13_spec hS.hI).mono ?_; rintro e w' ⟨J1, rfl, hn⟩; have hle1 := hn.le hS.hI; replace hS := hS.pure0 hn; clear hn) | (go_at_call 20; refine (great13_spec hS.hI (hl0.mono hle1)).mono ?_; rintro e w' ⟨rfl, rfl⟩; rw [hg]))
    have hl1 := hl0.mono hle1
    have hm1 := hm0.mono hle1
    replace hS := hS.nilRow 1 5
    have Hg := Lib.hid hg
    clear hg
    go_loopw [6, 35] (fun v6 v35 wr => ∃ k ado co, k ≤ more.length ∧ v35 = .int .i64 (k : Nat) ∧ v6 = .slice ado k co ∧ Hid (∀ b ∈ more.take k, b.length ≤ 150) ∧ Nx [] I w J1 [.row 1 5 (.slice ado k co) k (bvs (List.replicate k 117))] wr) (fun _ v35 _ => more.length - (intOf v35).toNat)
    case atStart => exact ⟨0, none, 0, by omega, rfl, rfl, Lib.hid (by simp), hS⟩
    case round =>
      clear hS
      obtain ⟨k, ado, co, hk, rfl, rfl, Hsh, hS⟩ := hrel
      by_cases hlt : k < more.length
      · obtain ⟨ea, ec, hxk, hrd⟩ := RepsB.at hxm k hlt
        obtain ⟨x, hx⟩ : ∃ x, x = more[k] := ⟨_, rfl⟩
        rw [← hx] at hxk hrd
        have hst : more.take (k + 1) = more.take k ++ [x] := by rw [List.take_succ_eq_append_getElem hlt, hx]
        have Hst := Lib.hid hst
        have Hlt := Lib.hid hlt
        clear hst hx
        obtain ⟨b0, j0, rfl, hc0⟩ := hsrcm.resolve_left (by rintro ⟨_, rfl⟩; simp at hxk)
        have hcell := hS.cell0 (hc0 k _ hxk)
        by_cases h6 : x.length > 150
        · have h6i : (150 : Int) < x.length := by omega
          go_wp2_with (first | ((with_reducible refine gL_load ?_); refine sL_loadC rfl _ _ rfl _ _ rfl _ hcell ?_))
          go_ret
          exact ⟨J1, rfl, hS.drop⟩
        · have h6i : ¬ (150 : Int) < x.length := by omega
          go_wp2_with (first | ((with_reducible refine gL_load ?_); refine sL_loadC rfl _ _ rfl _ _ rfl _ hcell ?_) | ((with_reducible refine gL_lit ?_); first | (refine sL_lit0 hS rfl _ rfl ?_; clear hS; intro b w' hb hS) | (refine sL_lit1 hS rfl _ _ rfl _ (by go_simp; first | exact rfl | exact ⟨rfl, rfl⟩) rfl ?_; clear hS; intro b w' hb hS) | (refine sL_lit2 hS rfl _ _ _ rfl _ _ (by go_simp; first | exact rfl | exact ⟨rfl, rfl⟩) (by go_simp; first | exact rfl | exact ⟨rfl, rfl⟩) rfl rfl ?_; clear hS; intro b w' hb hS) | (refine sL_lit12 hS rfl _ _ rfl _ _ (by go_simp; first | exact rfl | exact ⟨rfl, rfl⟩) ?_; clear hS; intro b w' hb hS)) | ((with_reducible refine gL_app ?_); (refine sL_append hS rfl _ _ _ rfl 1 _ _ _ rfl rfl _ _ _ _ rfl (by first | (simp; done) | (simp only [List.length_map]; omega)) (hS.srcBlk (i := 0) rfl) (by simp [Value.oneCell']) (by first | omega | (simp only [List.length_append, List.length_cons, List.length_nil]; omega)) ?_; clear hS; intro ad' c' w' hS hnil hown; simp only [List.set_cons_zero, List.set_cons_succ] at hS; replace hS := hS.drop)))
          go_roundw
          case rel =>
            refine ⟨k + 1, ad', c', Hlt.out, by simp, rfl, Lib.hid ?_, ?_⟩
            · rw [Hst.out]
              exact forall_app Hsh.out (fun b hb => by rw [List.mem_singleton.1 hb]; omega)
            · rw [List.replicate_succ']
              simpa [bv] using hS
          case measure => have := Hlt.out; simp [intOf]; omega
      · obtain rfl : k = more.length := by omega
        have hsh := Hsh.out
        rw [List.take_length] at hsh
        have Hsh2 := Lib.hid hsh
        obtain ⟨J2, hS1, hle2, hdr⟩ := hS.freezeRow0
        clear hS Hsh hsh
        have hS := hS1
        clear hS1
        have hl2 := hl1.mono hle2
        have hm2 := hm1.mono hle2
        have hdrB : RdB J2 (.slice ado more.length co) (List.replicate more.length 117) := by
          have e : (List.replicate more.length (117 : UInt8)).length = more.length := List.length_replicate
          unfold RdB
          rw [e]; exact hdr
        have hnew := fun {w : World} {J : Imm} {v : Value} (hJ : J.Holds w) (h : LsAt J w v l) => New_spec hJ h (by omega)
        unfold NewPost at hnew
        cases hnb : newB l with
        | error c =>
          rw [hnb] at hnew
          have hc : c = 120 := by
            unfold newB at hnb
            split at hnb
            · cases hnb; rfl
            · rw [if_neg (by omega)] at hnb; cases hnb
          subst hc
          clear hnb
          go_wp2_with (first | (go_at_call 15; refine (hnew hS.hI (hl2.ls hS.hI)).mono ?_; rintro e w' ⟨rfl, J3, hn⟩; replace hS := hS.pure0 hn; clear hn))
          go_ret
          exact ⟨J3, rfl, hS⟩
        | ok s2 =>
          obtain ⟨hse, hll, hlb⟩ := newB_inv hnb
          subst hse
          rw [hnb] at hnew
          have hsh := Hsh2.out
          have hfl := flat_len hsh
          have hlm : more.length ≤ 3 := by omega
          have hr1 : runB shaH s2 (more.flatMap pushB) zero32 = .ok (s2 ++ more) := runB_pushes (by omega) (by omega) hlb (fun b hb => by have := hsh b hb; omega)
          have hr2 : runB shaH s2 (more.flatMap pushB ++ List.replicate more.length 117) zero32 = .ok s2 := runB_drops (by omega) (by omega) hlb (fun b hb => by have := hsh b hb; omega) (by omega)
          have hpush := fun {I : Imm} {w : World} {v : Value} (hI : I.Holds w) (h : LsAt I w v more) => push13_spec hI h (fun b hb => by have := hsh b hb; omega) (by omega)
          obtain ⟨P, hP⟩ : ∃ P, P = more.flatMap pushB := ⟨_, rfl⟩
          rw [← hP] at hr1 hr2 hpush hfl
          obtain ⟨W, hW⟩ : ∃ W, W = s2 ++ more := ⟨_, rfl⟩
          rw [← hW] at hr1
          have hWl : W.length = s2.length + more.length := by rw [hW, List.length_append]
          have hWb : ∀ b ∈ W, b.length ≤ 520 := by rw [hW]; exact forall_app hlb (fun b hb => by have := hsh b hb; omega)
          have hWx : ∀ J : Imm, I.Le J → Reps J W (xl ++ xm) := fun J hle => by rw [hW]; exact (hxl.mono hle).append (hxm.mono hle)
          have hsame := fun {I : Imm} {w : World} {l : List Bs} (hI : I.Holds w) {v u : Value} (ha : LsAt I w v l) (hb : LsAt I w u l) => by
            have := Same12_spec hI ha hb
            rw [decide_eq_true rfl] at this
            exact this
          have HWl := Lib.hid hWl
          have HWb := Lib.hid hWb
          have hWle : W.length ≤ 1000 := by omega
          clear hW hWl hWb
          have hcodes := fun {I : Imm} {w : World} {v u : Value} (hI : I.Holds w) (h1 : RdB I v P) (h2 : RdB I u (List.replicate more.length 117)) => codes_spec hI h1 h2 (by rw [List.length_replicate]; omega)
          obtain ⟨Q, hQ⟩ : ∃ Q, Q = P ++ List.replicate more.length 117 := ⟨_, rfl⟩
          have hQl : Q.length ≤ 1000 := by rw [hQ, List.length_append, List.length_replicate]; omega
          rw [← hQ] at hr2 hcodes
          have hrun1 := fun {I : Imm} {w : World} {sb : Nat} {L : List Item} {v : Value} (hin : Init I L w) (hst : StkAt I sb s2 [] L) (hv : RdB I v P) => Run_spec (dig := zero32) hin hst (by omega) (fun b hb => by have := hlb b hb; omega) hv (by omega) zero32_len
          have hrun2 := fun {I : Imm} {w : World} {sb : Nat} {L : List Item} {v : Value} (hin : Init I L w) (hst : StkAt I sb s2 [] L) (hv : RdB I v Q) => Run_spec (dig := zero32) hin hst (by omega) (fun b hb => by have := hlb b hb; omega) hv (by omega) zero32_len
          clear hP hQ
          unfold RunPost at hrun1 hrun2
          rw [hr1] at hrun1
          rw [hr2] at hrun2
          clear hr1 hr2 hnb hsh
          go_wp2_with (first | ((go_at_call 15; refine (hnew hS.hI (hl2.ls hS.hI)).mono ?_; rintro e w' ⟨J3, sa, al, acl, axl, rfl, hn, hra⟩; have hle3 := hn.le hS.hI; replace hS := hS.pure hn; clear hn; simp only [List.cons_append, List.nil_append] at hS); refine Stop.of ?_))
          refine Stop.to ?_
          go_wp2_with (first | ((go_at_call 22; refine (hpush hS.hI ((hm2.mono hle3).ls hS.hI)).mono ?_; rintro e w' ⟨J4, pa, pc, rfl, hn⟩; obtain ⟨K4, hS4, hle4, hrd4⟩ := hS.pureFreeze hn; clear hS hn; have hS := hS4; clear hS4); refine Stop.of ?_))
          refine Stop.to ?_
          have hsta : StkAt K4 sa s2 [] (stkL sa al none s2.length acl 0 0 axl []) := ⟨al, none, acl, 0, axl, [], rfl, hra.mono hle4, rfl⟩
          go_wp2_with (first | ((go_at_call 17; refine (hrun1 hS.toInit hsta hrd4).mono ?_; rintro e w' ⟨J5, sb, Lb, rfl, hn, hstb⟩; have hle5 := hn.le hS.hI; replace hS := hS.trans hn; clear hn); refine Stop.of ?_))
          refine Stop.to ?_
          go_wp2_with (first | ((go_at_call 22; refine (hpush hS.hI ((((hm2.mono hle3).mono hle4).mono hle5).ls hS.hI)).mono ?_; rintro e w' ⟨J6, qa, qc, rfl, hn⟩; obtain ⟨K6, hS6, hle6, hrd6⟩ := hS.pureFreeze hn; clear hS hn; have hS := hS6; clear hS6); refine Stop.of ?_))
          refine Stop.to ?_
          go_wp2_with (first | ((go_at_call 23; refine (hcodes hS.hI hrd6 ((((hdrB.mono hle3).mono hle4).mono hle5).mono hle6)).mono ?_; rintro e w' ⟨ca, cc, rfl, hn⟩; obtain ⟨K7, hS7, hle7, hrd7⟩ := hS.pureFreeze hn; clear hS hn; have hS := hS7; clear hS7); refine Stop.of ?_))
          refine Stop.to ?_
          have hsta7 := ((hsta.mono hle5).mono hle6).mono hle7
          go_wp2_with (first | ((go_at_call 17; refine (hrun2 (Init.right hS.toInit) hsta7 hrd7).mono ?_; rintro e w' ⟨J8, sc, Lc, rfl, hn, hstc⟩; have hle8 := hn.le (Init.right hS.toInit).hI; replace hS := Nx.callTail hS hn; clear hn); refine Stop.of ?_))
          refine Stop.to ?_
          have hstb8 := ((hstb.mono hle6).mono hle7).mono hle8
          obtain ⟨bl, bo, bcl, bco, bxl, bxo, rfl, hrb, -⟩ := hstb8
          obtain ⟨cl, co', ccl, cco, cxl, cxo, rfl, hrc, -⟩ := hstc
          simp only [List.cons_append, List.nil_append] at hS
          have hleA := ((((((hle1.trans hle2).trans hle3).trans hle4).trans hle5).trans hle6).trans hle7).trans hle8
          have hrlA := hrl.mono hleA
          have hrmA := hrm.mono hleA
          have hWA := hWx _ hleA
          have hxlA := hxl.mono hleA
          go_wp2_with (first | (((with_reducible refine gL_lit ?_); first | (refine sL_lit0 hS rfl _ rfl ?_; clear hS; intro b w' hb hS) | (refine sL_lit1 hS rfl _ _ rfl _ (by go_simp; first | exact rfl | exact ⟨rfl, rfl⟩) rfl ?_; clear hS; intro b w' hb hS) | (refine sL_lit2 hS rfl _ _ _ rfl _ _ (by go_simp; first | exact rfl | exact ⟨rfl, rfl⟩) (by go_simp; first | exact rfl | exact ⟨rfl, rfl⟩) rfl rfl ?_; clear hS; intro b w' hb hS) | (refine sL_lit12 hS rfl _ _ rfl _ _ (by go_simp; first | exact rfl | exact ⟨rfl, rfl⟩) ?_; clear hS; intro b w' hb hS)); replace hS := hS.litRow 1 0 rfl (by decide); refine Stop.of ?_))
          refine Stop.to ?_
          go_wp2_with (first | ((with_reducible refine gL_app ?_); refine sL_append hS rfl _ _ _ rfl 0 _ _ _ rfl rfl _ _ _ _ rfl (by rw [Hll0.out]; omega) (hrlA.src hS.hI) hol (by omega) ?_; clear hS; intro ad' c' w' hS hnil hown; simp only [List.set_cons_zero, Nat.zero_add, List.nil_append] at hS; refine Stop.of ?_))
          refine Stop.to ?_
          go_wp2_with (first | ((with_reducible refine gL_app ?_); refine sL_append hS rfl _ _ _ rfl 0 _ _ _ rfl rfl _ _ _ _ rfl (by rw [Hlm0.out]; omega) (hrmA.src hS.hI) hom (by omega) ?_; clear hS; intro ad2 c2 w' hS hnil2 hown2; simp only [List.set_cons_zero] at hS; refine Stop.of ?_))
          refine Stop.to ?_
          go_wp2_with (first | ((go_at_call 19; refine (All_spec hS.hI (hS.blkCell 1 rfl 0 rfl) (hS.ls (i := 2) rfl hrb rfl) (by omega) (fun b hb => by have := HWb.out b hb; omega)).mono ?_; rintro e w' ⟨J9, aa, ac, ys, rfl, hn, hr9⟩; have hle9 := hn.le hS.hI; replace hS := hS.pure1 hn; clear hn); refine Stop.of ?_))
          refine Stop.to ?_
          have hWA9 := hWA.mono hle9
          go_wp2_with (first | ((go_at_call 18; refine (hsame hS.hI (hS.ls (i := 0) rfl hr9 rfl) (hS.ls (i := 1) rfl hWA9 HWl.out)).mono ?_; rintro e w' ⟨rfl, hn⟩; replace hS := hS.pure0 hn; clear hn); refine Stop.of ?_))
          refine Stop.to ?_
          have hrc9 := hrc.mono hle9
          go_wp2_with (first | ((go_at_call 19; refine (All_spec hS.hI (hS.blkCell 5 rfl 0 rfl) (hS.ls (i := 6) rfl hrc9 rfl) (by omega) (fun b hb => by have := hlb b hb; omega)).mono ?_; rintro e w' ⟨J10, ba, bc, zs, rfl, hn, hr10⟩; have hle10 := hn.le hS.hI; replace hS := hS.pure1 hn; clear hn); refine Stop.of ?_))
          refine Stop.to ?_
          go_wp2_with (first | ((go_at_call 18; refine (hsame hS.hI (hS.ls (i := 0) rfl hr10 rfl) (((hl0.mono hleA).mono hle9).mono hle10 |>.ls hS.hI)).mono ?_; rintro e w' ⟨rfl, hn⟩; replace hS := hS.pure0 hn; clear hn); refine Stop.of ?_))
          refine Stop.to ?_
          go_wp2_with fail
          go_ret
          exact ⟨J10, rfl, hS.toNil⟩
end Go.Proofs.YtmlgieclkedomaaGreat
