/- What the statement's proof stands on, part 3: contracts of the program's functions, and plain laws. -/
import Derived.LoopIn
import Derived.LoopNIn
import Derived.Laws.BitsAllLaws
import Derived.Test.YtmlgieclkedomaaGreatPushes1
import Derived.Test.YtmlgieclkedomaaGreatPushes2
set_option linter.unusedVariables false
set_option linter.unusedSimpArgs false
namespace Go.Proofs.YtmlgieclkedomaaGreat
open Go Go.RowKit
attribute [local go_sem] Oper.semAt_some

def ValuePost (I : Imm) (w : World) (o : OpS) (e : Ending) (w' : World) : Prop :=
  match valueB o with
  | none => e = .returned (.tuple #[.slice none 0 0, .bool false]) ∧ ∃ J, Nx [] I w J [] w'
  | some b => ∃ J ad c, e = .returned (.tuple #[.slice ad b.length c, .bool true]) ∧ RdB J (.slice ad b.length c) b ∧ Nx [] I w J [] w'
set_option maxRecDepth 10000 in
set_option maxHeartbeats 1000000 in
theorem Value_spec {I : Imm} {w : World} (hI : I.Holds w) {o : OpS} {vs : List Value} (h : OpAt I o vs) (hl : o.data.length ≤ 1000000) :
    Calls Tryz.prog 75 #[.agg vs.toArray] w (ValuePost I w o) := by
  obtain ⟨ad, cc, rfl, hrd⟩ := h
  obtain ⟨c, d⟩ := o
  simp only at hrd hl ⊢
  have hS := Nx.nil hI
  obtain ⟨n, hn⟩ : ∃ n : Nat, n = c.toNat := ⟨_, rfl⟩
  have hbv : bv c = .int .u8 (n : Nat) := by rw [hn]
  have hn256 : n < 256 := by rw [hn]; exact c.toNat_lt
  have hmay := fun {I : Imm} {w : World} (hI : I.Holds w) => may_spec (A := ad) (c := c) (k := cc) (w := w) (by omega : d.length ≤ 1000000000) d rfl hI
  rw [hbv] at hmay ⊢
  have hv : valueB ⟨c, d⟩ = if opMay ⟨c, d⟩ = false then none else if n ≤ 77 then some d else if n = 79 then some [129] else if 81 ≤ n ∧ n ≤ 96 then some [c - 80] else none := by
    unfold valueB
    have e1 : (c ≤ 77) = (n ≤ 77) := by rw [hn]; rfl
    have e2 : (c = 79) = (n = 79) := by rw [hn]; exact propext ⟨fun h => by rw [h]; rfl, fun h => UInt8.toNat_inj.1 h⟩
    have e3 : (81 ≤ c ∧ c ≤ 96) = (81 ≤ n ∧ n ≤ 96) := by rw [hn]; rfl
    simp only [e1, e2, e3]
  have Hv := Lib.hid hv
  have Hn := Lib.hid hn
  clear hv hbv hn
  cases hm : opMay ⟨c, d⟩ with
  | false =>
    go_enter Tryz.func75, Tryz.ntmps75
    go_wp2_with (first | ((with_reducible refine gL_box ?_); (refine sL_box hS rfl _ _ rfl _ (by go_simp; first | exact rfl | exact ⟨rfl, rfl⟩) ?_; clear hS; intro b1 w' hb1 hS)) | (first | ((with_reducible refine gL_load ?_); first | (refine sL_load hS rfl _ _ rfl _ _ rfl 0 _ _ rfl _ rfl ?_) | (refine sL_load hS rfl _ _ rfl _ _ rfl 1 _ _ rfl _ rfl ?_) | (refine sL_load hS rfl _ _ rfl _ _ rfl 2 _ _ rfl _ rfl ?_) | (refine sL_load hS rfl _ _ rfl _ _ rfl 3 _ _ rfl _ rfl ?_) | (refine sL_load hS rfl _ _ rfl _ _ rfl 4 _ _ rfl _ rfl ?_) | (refine sL_load hS rfl _ _ rfl _ _ rfl 5 _ _ rfl _ rfl ?_) | (refine sL_loadA hS rfl _ _ rfl _ _ rfl 0 _ _ rfl _ rfl rfl ?_) | (refine sL_loadA hS rfl _ _ rfl _ _ rfl 1 _ _ rfl _ rfl rfl ?_) | (refine sL_loadA hS rfl _ _ rfl _ _ rfl 2 _ _ rfl _ rfl rfl ?_) | (refine sL_loadA hS rfl _ _ rfl _ _ rfl 3 _ _ rfl _ rfl rfl ?_) | (refine sL_loadA hS rfl _ _ rfl _ _ rfl 4 _ _ rfl _ rfl rfl ?_) | (refine sL_loadA hS rfl _ _ rfl _ _ rfl 5 _ _ rfl _ rfl rfl ?_)) | ((with_reducible refine gL_store ?_); first | (refine sL_store hS rfl _ _ _ rfl _ _ rfl 0 _ _ rfl _ (by go_simp; first | exact rfl | exact ⟨rfl, rfl⟩) rfl (by simp) ?_; clear hS; intro w' hS; simp only [List.set_cons_zero] at hS) | (refine sL_store hS rfl _ _ _ rfl _ _ rfl 1 _ _ rfl _ (by go_simp; first | exact rfl | exact ⟨rfl, rfl⟩) rfl (by simp) ?_; clear hS; intro w' hS; simp only [List.set_cons_zero, List.set_cons_succ] at hS) | (refine sL_store hS rfl _ _ _ rfl _ _ rfl 2 _ _ rfl _ (by go_simp; first | exact rfl | exact ⟨rfl, rfl⟩) rfl (by simp) ?_; clear hS; intro w' hS; simp only [List.set_cons_zero, List.set_cons_succ] at hS) | (refine sL_store hS rfl _ _ _ rfl _ _ rfl 3 _ _ rfl _ (by go_simp; first | exact rfl | exact ⟨rfl, rfl⟩) rfl (by simp) ?_; clear hS; intro w' hS; simp only [List.set_cons_zero, List.set_cons_succ] at hS) | (refine sL_store hS rfl _ _ _ rfl _ _ rfl 4 _ _ rfl _ (by go_simp; first | exact rfl | exact ⟨rfl, rfl⟩) rfl (by simp) ?_; clear hS; intro w' hS; simp only [List.set_cons_zero, List.set_cons_succ] at hS) | (refine sL_store hS rfl _ _ _ rfl _ _ rfl 5 _ _ rfl _ (by go_simp; first | exact rfl | exact ⟨rfl, rfl⟩) rfl (by simp) ?_; clear hS; intro w' hS; simp only [List.set_cons_zero, List.set_cons_succ] at hS) | (refine sL_storeB hS rfl _ _ _ rfl _ rfl 0 _ _ rfl _ (by go_simp; first | exact rfl | exact ⟨rfl, rfl⟩) (by rfl) (by rfl) (by simp [Value.oneCell']) ?_; clear hS; intro w' hS; simp only [List.set_cons_zero] at hS) | (refine sL_storeB hS rfl _ _ _ rfl _ rfl 1 _ _ rfl _ (by go_simp; first | exact rfl | exact ⟨rfl, rfl⟩) (by rfl) (by rfl) (by simp [Value.oneCell']) ?_; clear hS; intro w' hS; simp only [List.set_cons_zero, List.set_cons_succ] at hS) | (refine sL_storeB hS rfl _ _ _ rfl _ rfl 2 _ _ rfl _ (by go_simp; first | exact rfl | exact ⟨rfl, rfl⟩) (by rfl) (by rfl) (by simp [Value.oneCell']) ?_; clear hS; intro w' hS; simp only [List.set_cons_zero, List.set_cons_succ] at hS) | (refine sL_storeB hS rfl _ _ _ rfl _ rfl 3 _ _ rfl _ (by go_simp; first | exact rfl | exact ⟨rfl, rfl⟩) (by rfl) (by rfl) (by simp [Value.oneCell']) ?_; clear hS; intro w' hS; simp only [List.set_cons_zero, List.set_cons_succ] at hS) | (refine sL_storeB hS rfl _ _ _ rfl _ rfl 4 _ _ rfl _ (by go_simp; first | exact rfl | exact ⟨rfl, rfl⟩) (by rfl) (by rfl) (by simp [Value.oneCell']) ?_; clear hS; intro w' hS; simp only [List.set_cons_zero, List.set_cons_succ] at hS) | (refine sL_storeB hS rfl _ _ _ rfl _ rfl 5 _ _ rfl _ (by go_simp; first | exact rfl | exact ⟨rfl, rfl⟩) (by rfl) (by rfl) (by simp [Value.oneCell']) ?_; clear hS; intro w' hS; simp only [List.set_cons_zero, List.set_cons_succ] at hS)) | ((with_reducible refine gL_alloc ?_); (refine sL_alloc hS rfl _ rfl ?_; clear hS; intro b w' hb hS)) | ((with_reducible refine gL_box ?_); (refine sL_box hS rfl _ _ rfl _ (by go_simp; first | exact rfl | exact ⟨rfl, rfl⟩) ?_; clear hS; intro b w' hb hS))) | (go_at_call 53; refine (hmay hS.hI).mono ?_; rintro e w' ⟨rfl, hn⟩; rw [hm]; replace hS := hS.pure0 hn; clear hn))
    go_ret2
    show ValuePost _ _ _ _ _
    unfold ValuePost
    rw [Hv.out, if_pos hm]
    exact ⟨rfl, I, hS.drop⟩
  | true =>
    by_cases h77 : n ≤ 77
    · have h77i : (n : Int) ≤ 77 := by omega
      go_enter Tryz.func75, Tryz.ntmps75
      go_wp2_with (first | ((with_reducible refine gL_box ?_); (refine sL_box hS rfl _ _ rfl _ (by go_simp; first | exact rfl | exact ⟨rfl, rfl⟩) ?_; clear hS; intro b1 w' hb1 hS)) | (first | ((with_reducible refine gL_load ?_); first | (refine sL_load hS rfl _ _ rfl _ _ rfl 0 _ _ rfl _ rfl ?_) | (refine sL_load hS rfl _ _ rfl _ _ rfl 1 _ _ rfl _ rfl ?_) | (refine sL_load hS rfl _ _ rfl _ _ rfl 2 _ _ rfl _ rfl ?_) | (refine sL_load hS rfl _ _ rfl _ _ rfl 3 _ _ rfl _ rfl ?_) | (refine sL_load hS rfl _ _ rfl _ _ rfl 4 _ _ rfl _ rfl ?_) | (refine sL_load hS rfl _ _ rfl _ _ rfl 5 _ _ rfl _ rfl ?_) | (refine sL_loadA hS rfl _ _ rfl _ _ rfl 0 _ _ rfl _ rfl rfl ?_) | (refine sL_loadA hS rfl _ _ rfl _ _ rfl 1 _ _ rfl _ rfl rfl ?_) | (refine sL_loadA hS rfl _ _ rfl _ _ rfl 2 _ _ rfl _ rfl rfl ?_) | (refine sL_loadA hS rfl _ _ rfl _ _ rfl 3 _ _ rfl _ rfl rfl ?_) | (refine sL_loadA hS rfl _ _ rfl _ _ rfl 4 _ _ rfl _ rfl rfl ?_) | (refine sL_loadA hS rfl _ _ rfl _ _ rfl 5 _ _ rfl _ rfl rfl ?_)) | ((with_reducible refine gL_store ?_); first | (refine sL_store hS rfl _ _ _ rfl _ _ rfl 0 _ _ rfl _ (by go_simp; first | exact rfl | exact ⟨rfl, rfl⟩) rfl (by simp) ?_; clear hS; intro w' hS; simp only [List.set_cons_zero] at hS) | (refine sL_store hS rfl _ _ _ rfl _ _ rfl 1 _ _ rfl _ (by go_simp; first | exact rfl | exact ⟨rfl, rfl⟩) rfl (by simp) ?_; clear hS; intro w' hS; simp only [List.set_cons_zero, List.set_cons_succ] at hS) | (refine sL_store hS rfl _ _ _ rfl _ _ rfl 2 _ _ rfl _ (by go_simp; first | exact rfl | exact ⟨rfl, rfl⟩) rfl (by simp) ?_; clear hS; intro w' hS; simp only [List.set_cons_zero, List.set_cons_succ] at hS) | (refine sL_store hS rfl _ _ _ rfl _ _ rfl 3 _ _ rfl _ (by go_simp; first | exact rfl | exact ⟨rfl, rfl⟩) rfl (by simp) ?_; clear hS; intro w' hS; simp only [List.set_cons_zero, List.set_cons_succ] at hS) | (refine sL_store hS rfl _ _ _ rfl _ _ rfl 4 _ _ rfl _ (by go_simp; first | exact rfl | exact ⟨rfl, rfl⟩) rfl (by simp) ?_; clear hS; intro w' hS; simp only [List.set_cons_zero, List.set_cons_succ] at hS) | (refine sL_store hS rfl _ _ _ rfl _ _ rfl 5 _ _ rfl _ (by go_simp; first | exact rfl | exact ⟨rfl, rfl⟩) rfl (by simp) ?_; clear hS; intro w' hS; simp only [List.set_cons_zero, List.set_cons_succ] at hS) | (refine sL_storeB hS rfl _ _ _ rfl _ rfl 0 _ _ rfl _ (by go_simp; first | exact rfl | exact ⟨rfl, rfl⟩) (by rfl) (by rfl) (by simp [Value.oneCell']) ?_; clear hS; intro w' hS; simp only [List.set_cons_zero] at hS) | (refine sL_storeB hS rfl _ _ _ rfl _ rfl 1 _ _ rfl _ (by go_simp; first | exact rfl | exact ⟨rfl, rfl⟩) (by rfl) (by rfl) (by simp [Value.oneCell']) ?_; clear hS; intro w' hS; simp only [List.set_cons_zero, List.set_cons_succ] at hS) | (refine sL_storeB hS rfl _ _ _ rfl _ rfl 2 _ _ rfl _ (by go_simp; first | exact rfl | exact ⟨rfl, rfl⟩) (by rfl) (by rfl) (by simp [Value.oneCell']) ?_; clear hS; intro w' hS; simp only [List.set_cons_zero, List.set_cons_succ] at hS) | (refine sL_storeB hS rfl _ _ _ rfl _ rfl 3 _ _ rfl _ (by go_simp; first | exact rfl | exact ⟨rfl, rfl⟩) (by rfl) (by rfl) (by simp [Value.oneCell']) ?_; clear hS; intro w' hS; simp only [List.set_cons_zero, List.set_cons_succ] at hS) | (refine sL_storeB hS rfl _ _ _ rfl _ rfl 4 _ _ rfl _ (by go_simp; first | exact rfl | exact ⟨rfl, rfl⟩) (by rfl) (by rfl) (by simp [Value.oneCell']) ?_; clear hS; intro w' hS; simp only [List.set_cons_zero, List.set_cons_succ] at hS) | (refine sL_storeB hS rfl _ _ _ rfl _ rfl 5 _ _ rfl _ (by go_simp; first | exact rfl | exact ⟨rfl, rfl⟩) (by rfl) (by rfl) (by simp [Value.oneCell']) ?_; clear hS; intro w' hS; simp only [List.set_cons_zero, List.set_cons_succ] at hS)) | ((with_reducible refine gL_alloc ?_); (refine sL_alloc hS rfl _ rfl ?_; clear hS; intro b w' hb hS)) | ((with_reducible refine gL_box ?_); (refine sL_box hS rfl _ _ rfl _ (by go_simp; first | exact rfl | exact ⟨rfl, rfl⟩) ?_; clear hS; intro b w' hb hS))) | (go_at_call 53; refine (hmay hS.hI).mono ?_; rintro e w' ⟨rfl, hn⟩; rw [hm]; replace hS := hS.pure0 hn; clear hn) | (go_at_call 49; refine (Clone_spec hS.hI hrd (by omega)).mono ?_; rintro e w' ⟨ca, c2, rfl, hn⟩; obtain ⟨K, hS2, hleK, hrd2⟩ := hS.pureFreeze hn; clear hS hn; have hS := hS2; clear hS2))
      go_ret2
      show ValuePost _ _ _ _ _
      unfold ValuePost
      rw [Hv.out, if_neg (by rw [hm]; simp), if_pos h77]
      exact ⟨K, ca, c2, rfl, hrd2, hS.drop⟩
    · have h77i : ¬ (n : Int) ≤ 77 := by omega
      by_cases h79 : n = 79
      · subst h79
        rw [show ((79 : Nat) : Int) = 79 from rfl] at hmay ⊢
        go_enter Tryz.func75, Tryz.ntmps75
        go_wp2_with (first | ((with_reducible refine gL_box ?_); (refine sL_box hS rfl _ _ rfl _ (by go_simp; first | exact rfl | exact ⟨rfl, rfl⟩) ?_; clear hS; intro b1 w' hb1 hS)) | (((with_reducible refine gL_lit ?_); first | (refine sL_lit0 hS rfl _ rfl ?_; clear hS; intro lb w' hlb hS) | (refine sL_lit1 hS rfl _ _ rfl _ (by go_simp; first | exact rfl | exact ⟨rfl, rfl⟩) rfl ?_; clear hS; intro lb w' hlb hS) | (refine sL_lit2 hS rfl _ _ _ rfl _ _ (by go_simp; first | exact rfl | exact ⟨rfl, rfl⟩) (by go_simp; first | exact rfl | exact ⟨rfl, rfl⟩) rfl rfl ?_; clear hS; intro lb w' hlb hS) | (refine sL_lit12 hS rfl _ _ rfl _ _ (by go_simp; first | exact rfl | exact ⟨rfl, rfl⟩) ?_; clear hS; intro lb w' hlb hS)); obtain ⟨K, hS2, hleK, hat⟩ := hS.freezeBlk hlb; clear hS; have hS := hS2; clear hS2) | (first | ((with_reducible refine gL_load ?_); first | (refine sL_load hS rfl _ _ rfl _ _ rfl 0 _ _ rfl _ rfl ?_) | (refine sL_load hS rfl _ _ rfl _ _ rfl 1 _ _ rfl _ rfl ?_) | (refine sL_load hS rfl _ _ rfl _ _ rfl 2 _ _ rfl _ rfl ?_) | (refine sL_load hS rfl _ _ rfl _ _ rfl 3 _ _ rfl _ rfl ?_) | (refine sL_load hS rfl _ _ rfl _ _ rfl 4 _ _ rfl _ rfl ?_) | (refine sL_load hS rfl _ _ rfl _ _ rfl 5 _ _ rfl _ rfl ?_) | (refine sL_loadA hS rfl _ _ rfl _ _ rfl 0 _ _ rfl _ rfl rfl ?_) | (refine sL_loadA hS rfl _ _ rfl _ _ rfl 1 _ _ rfl _ rfl rfl ?_) | (refine sL_loadA hS rfl _ _ rfl _ _ rfl 2 _ _ rfl _ rfl rfl ?_) | (refine sL_loadA hS rfl _ _ rfl _ _ rfl 3 _ _ rfl _ rfl rfl ?_) | (refine sL_loadA hS rfl _ _ rfl _ _ rfl 4 _ _ rfl _ rfl rfl ?_) | (refine sL_loadA hS rfl _ _ rfl _ _ rfl 5 _ _ rfl _ rfl rfl ?_)) | ((with_reducible refine gL_store ?_); first | (refine sL_store hS rfl _ _ _ rfl _ _ rfl 0 _ _ rfl _ (by go_simp; first | exact rfl | exact ⟨rfl, rfl⟩) rfl (by simp) ?_; clear hS; intro w' hS; simp only [List.set_cons_zero] at hS) | (refine sL_store hS rfl _ _ _ rfl _ _ rfl 1 _ _ rfl _ (by go_simp; first | exact rfl | exact ⟨rfl, rfl⟩) rfl (by simp) ?_; clear hS; intro w' hS; simp only [List.set_cons_zero, List.set_cons_succ] at hS) | (refine sL_store hS rfl _ _ _ rfl _ _ rfl 2 _ _ rfl _ (by go_simp; first | exact rfl | exact ⟨rfl, rfl⟩) rfl (by simp) ?_; clear hS; intro w' hS; simp only [List.set_cons_zero, List.set_cons_succ] at hS) | (refine sL_store hS rfl _ _ _ rfl _ _ rfl 3 _ _ rfl _ (by go_simp; first | exact rfl | exact ⟨rfl, rfl⟩) rfl (by simp) ?_; clear hS; intro w' hS; simp only [List.set_cons_zero, List.set_cons_succ] at hS) | (refine sL_store hS rfl _ _ _ rfl _ _ rfl 4 _ _ rfl _ (by go_simp; first | exact rfl | exact ⟨rfl, rfl⟩) rfl (by simp) ?_; clear hS; intro w' hS; simp only [List.set_cons_zero, List.set_cons_succ] at hS) | (refine sL_store hS rfl _ _ _ rfl _ _ rfl 5 _ _ rfl _ (by go_simp; first | exact rfl | exact ⟨rfl, rfl⟩) rfl (by simp) ?_; clear hS; intro w' hS; simp only [List.set_cons_zero, List.set_cons_succ] at hS) | (refine sL_storeB hS rfl _ _ _ rfl _ rfl 0 _ _ rfl _ (by go_simp; first | exact rfl | exact ⟨rfl, rfl⟩) (by rfl) (by rfl) (by simp [Value.oneCell']) ?_; clear hS; intro w' hS; simp only [List.set_cons_zero] at hS) | (refine sL_storeB hS rfl _ _ _ rfl _ rfl 1 _ _ rfl _ (by go_simp; first | exact rfl | exact ⟨rfl, rfl⟩) (by rfl) (by rfl) (by simp [Value.oneCell']) ?_; clear hS; intro w' hS; simp only [List.set_cons_zero, List.set_cons_succ] at hS) | (refine sL_storeB hS rfl _ _ _ rfl _ rfl 2 _ _ rfl _ (by go_simp; first | exact rfl | exact ⟨rfl, rfl⟩) (by rfl) (by rfl) (by simp [Value.oneCell']) ?_; clear hS; intro w' hS; simp only [List.set_cons_zero, List.set_cons_succ] at hS) | (refine sL_storeB hS rfl _ _ _ rfl _ rfl 3 _ _ rfl _ (by go_simp; first | exact rfl | exact ⟨rfl, rfl⟩) (by rfl) (by rfl) (by simp [Value.oneCell']) ?_; clear hS; intro w' hS; simp only [List.set_cons_zero, List.set_cons_succ] at hS) | (refine sL_storeB hS rfl _ _ _ rfl _ rfl 4 _ _ rfl _ (by go_simp; first | exact rfl | exact ⟨rfl, rfl⟩) (by rfl) (by rfl) (by simp [Value.oneCell']) ?_; clear hS; intro w' hS; simp only [List.set_cons_zero, List.set_cons_succ] at hS) | (refine sL_storeB hS rfl _ _ _ rfl _ rfl 5 _ _ rfl _ (by go_simp; first | exact rfl | exact ⟨rfl, rfl⟩) (by rfl) (by rfl) (by simp [Value.oneCell']) ?_; clear hS; intro w' hS; simp only [List.set_cons_zero, List.set_cons_succ] at hS)) | ((with_reducible refine gL_alloc ?_); (refine sL_alloc hS rfl _ rfl ?_; clear hS; intro b w' hb hS)) | ((with_reducible refine gL_box ?_); (refine sL_box hS rfl _ _ rfl _ (by go_simp; first | exact rfl | exact ⟨rfl, rfl⟩) ?_; clear hS; intro b w' hb hS))) | (go_at_call 53; refine (hmay hS.hI).mono ?_; rintro e w' ⟨rfl, hn⟩; rw [hm]; replace hS := hS.pure0 hn; clear hn))
        go_ret2
        show ValuePost _ _ _ _ _
        unfold ValuePost
        rw [Hv.out, if_neg (by rw [hm]; simp), if_neg h77, if_pos trivial]
        exact ⟨K, _, _, rfl, (Rd.ofBlk (n := 1) hat (by decide)).asB [129] (by simp [bvs, bv]) _ rfl rfl, hS.drop⟩
      · have h79i : ¬ (n : Int) = 79 := by omega
        by_cases h81 : 81 ≤ n
        · have h81i : (81 : Int) ≤ n := by omega
          by_cases h96 : n ≤ 96
          · have h96i : (n : Int) ≤ 96 := by omega
            go_enter Tryz.func75, Tryz.ntmps75
            go_wp2_with (first | ((with_reducible refine gL_box ?_); (refine sL_box hS rfl _ _ rfl _ (by go_simp; first | exact rfl | exact ⟨rfl, rfl⟩) ?_; clear hS; intro b1 w' hb1 hS)) | (((with_reducible refine gL_lit ?_); first | (refine sL_lit0 hS rfl _ rfl ?_; clear hS; intro lb w' hlb hS) | (refine sL_lit1 hS rfl _ _ rfl _ (by go_simp; first | exact rfl | exact ⟨rfl, rfl⟩) rfl ?_; clear hS; intro lb w' hlb hS) | (refine sL_lit2 hS rfl _ _ _ rfl _ _ (by go_simp; first | exact rfl | exact ⟨rfl, rfl⟩) (by go_simp; first | exact rfl | exact ⟨rfl, rfl⟩) rfl rfl ?_; clear hS; intro lb w' hlb hS) | (refine sL_lit12 hS rfl _ _ rfl _ _ (by go_simp; first | exact rfl | exact ⟨rfl, rfl⟩) ?_; clear hS; intro lb w' hlb hS))) | (first | ((with_reducible refine gL_load ?_); first | (refine sL_load hS rfl _ _ rfl _ _ rfl 0 _ _ rfl _ rfl ?_) | (refine sL_load hS rfl _ _ rfl _ _ rfl 1 _ _ rfl _ rfl ?_) | (refine sL_load hS rfl _ _ rfl _ _ rfl 2 _ _ rfl _ rfl ?_) | (refine sL_load hS rfl _ _ rfl _ _ rfl 3 _ _ rfl _ rfl ?_) | (refine sL_load hS rfl _ _ rfl _ _ rfl 4 _ _ rfl _ rfl ?_) | (refine sL_load hS rfl _ _ rfl _ _ rfl 5 _ _ rfl _ rfl ?_) | (refine sL_loadA hS rfl _ _ rfl _ _ rfl 0 _ _ rfl _ rfl rfl ?_) | (refine sL_loadA hS rfl _ _ rfl _ _ rfl 1 _ _ rfl _ rfl rfl ?_) | (refine sL_loadA hS rfl _ _ rfl _ _ rfl 2 _ _ rfl _ rfl rfl ?_) | (refine sL_loadA hS rfl _ _ rfl _ _ rfl 3 _ _ rfl _ rfl rfl ?_) | (refine sL_loadA hS rfl _ _ rfl _ _ rfl 4 _ _ rfl _ rfl rfl ?_) | (refine sL_loadA hS rfl _ _ rfl _ _ rfl 5 _ _ rfl _ rfl rfl ?_)) | ((with_reducible refine gL_store ?_); first | (refine sL_store hS rfl _ _ _ rfl _ _ rfl 0 _ _ rfl _ (by go_simp; first | exact rfl | exact ⟨rfl, rfl⟩) rfl (by simp) ?_; clear hS; intro w' hS; simp only [List.set_cons_zero] at hS) | (refine sL_store hS rfl _ _ _ rfl _ _ rfl 1 _ _ rfl _ (by go_simp; first | exact rfl | exact ⟨rfl, rfl⟩) rfl (by simp) ?_; clear hS; intro w' hS; simp only [List.set_cons_zero, List.set_cons_succ] at hS) | (refine sL_store hS rfl _ _ _ rfl _ _ rfl 2 _ _ rfl _ (by go_simp; first | exact rfl | exact ⟨rfl, rfl⟩) rfl (by simp) ?_; clear hS; intro w' hS; simp only [List.set_cons_zero, List.set_cons_succ] at hS) | (refine sL_store hS rfl _ _ _ rfl _ _ rfl 3 _ _ rfl _ (by go_simp; first | exact rfl | exact ⟨rfl, rfl⟩) rfl (by simp) ?_; clear hS; intro w' hS; simp only [List.set_cons_zero, List.set_cons_succ] at hS) | (refine sL_store hS rfl _ _ _ rfl _ _ rfl 4 _ _ rfl _ (by go_simp; first | exact rfl | exact ⟨rfl, rfl⟩) rfl (by simp) ?_; clear hS; intro w' hS; simp only [List.set_cons_zero, List.set_cons_succ] at hS) | (refine sL_store hS rfl _ _ _ rfl _ _ rfl 5 _ _ rfl _ (by go_simp; first | exact rfl | exact ⟨rfl, rfl⟩) rfl (by simp) ?_; clear hS; intro w' hS; simp only [List.set_cons_zero, List.set_cons_succ] at hS) | (refine sL_storeB hS rfl _ _ _ rfl _ rfl 0 _ _ rfl _ (by go_simp; first | exact rfl | exact ⟨rfl, rfl⟩) (by rfl) (by rfl) (by simp [Value.oneCell']) ?_; clear hS; intro w' hS; simp only [List.set_cons_zero] at hS) | (refine sL_storeB hS rfl _ _ _ rfl _ rfl 1 _ _ rfl _ (by go_simp; first | exact rfl | exact ⟨rfl, rfl⟩) (by rfl) (by rfl) (by simp [Value.oneCell']) ?_; clear hS; intro w' hS; simp only [List.set_cons_zero, List.set_cons_succ] at hS) | (refine sL_storeB hS rfl _ _ _ rfl _ rfl 2 _ _ rfl _ (by go_simp; first | exact rfl | exact ⟨rfl, rfl⟩) (by rfl) (by rfl) (by simp [Value.oneCell']) ?_; clear hS; intro w' hS; simp only [List.set_cons_zero, List.set_cons_succ] at hS) | (refine sL_storeB hS rfl _ _ _ rfl _ rfl 3 _ _ rfl _ (by go_simp; first | exact rfl | exact ⟨rfl, rfl⟩) (by rfl) (by rfl) (by simp [Value.oneCell']) ?_; clear hS; intro w' hS; simp only [List.set_cons_zero, List.set_cons_succ] at hS) | (refine sL_storeB hS rfl _ _ _ rfl _ rfl 4 _ _ rfl _ (by go_simp; first | exact rfl | exact ⟨rfl, rfl⟩) (by rfl) (by rfl) (by simp [Value.oneCell']) ?_; clear hS; intro w' hS; simp only [List.set_cons_zero, List.set_cons_succ] at hS) | (refine sL_storeB hS rfl _ _ _ rfl _ rfl 5 _ _ rfl _ (by go_simp; first | exact rfl | exact ⟨rfl, rfl⟩) (by rfl) (by rfl) (by simp [Value.oneCell']) ?_; clear hS; intro w' hS; simp only [List.set_cons_zero, List.set_cons_succ] at hS)) | ((with_reducible refine gL_alloc ?_); (refine sL_alloc hS rfl _ rfl ?_; clear hS; intro b w' hb hS)) | ((with_reducible refine gL_box ?_); (refine sL_box hS rfl _ _ rfl _ (by go_simp; first | exact rfl | exact ⟨rfl, rfl⟩) ?_; clear hS; intro b w' hb hS))) | (go_at_call 53; refine (hmay hS.hI).mono ?_; rintro e w' ⟨rfl, hn⟩; rw [hm]; replace hS := hS.pure0 hn; clear hn))
            obtain ⟨K, hS2, hleK, hat⟩ := hS.freezeBlk hlb
            go_ret2
            show ValuePost _ _ _ _ _
            unfold ValuePost
            rw [Hv.out, if_neg (by rw [hm]; simp), if_neg h77, if_neg h79, if_pos ⟨h81, h96⟩]
            have e : (c - 80).toNat = n - 80 := by rw [UInt8.toNat_sub_of_le _ _ (show (80 : UInt8).toNat ≤ c.toNat by rw [← Hn.out]; show 80 ≤ n; omega), ← Hn.out]; rfl
            exact ⟨K, _, _, rfl, (Rd.ofBlk (n := 1) hat (by decide)).asB [c - 80] (by simp only [bvs, bv, List.map_cons, List.map_nil, e]; congr 2; omega) _ rfl rfl, hS2.drop⟩
          · have h96i : ¬ (n : Int) ≤ 96 := by omega
            go_enter Tryz.func75, Tryz.ntmps75
            go_wp2_with (first | ((with_reducible refine gL_box ?_); (refine sL_box hS rfl _ _ rfl _ (by go_simp; first | exact rfl | exact ⟨rfl, rfl⟩) ?_; clear hS; intro b1 w' hb1 hS)) | (first | ((with_reducible refine gL_load ?_); first | (refine sL_load hS rfl _ _ rfl _ _ rfl 0 _ _ rfl _ rfl ?_) | (refine sL_load hS rfl _ _ rfl _ _ rfl 1 _ _ rfl _ rfl ?_) | (refine sL_load hS rfl _ _ rfl _ _ rfl 2 _ _ rfl _ rfl ?_) | (refine sL_load hS rfl _ _ rfl _ _ rfl 3 _ _ rfl _ rfl ?_) | (refine sL_load hS rfl _ _ rfl _ _ rfl 4 _ _ rfl _ rfl ?_) | (refine sL_load hS rfl _ _ rfl _ _ rfl 5 _ _ rfl _ rfl ?_) | (refine sL_loadA hS rfl _ _ rfl _ _ rfl 0 _ _ rfl _ rfl rfl ?_) | (refine sL_loadA hS rfl _ _ rfl _ _ rfl 1 _ _ rfl _ rfl rfl ?_) | (refine sL_loadA hS rfl _ _ rfl _ _ rfl 2 _ _ rfl _ rfl rfl ?_) | (refine sL_loadA hS rfl _ _ rfl _ _ rfl 3 _ _ rfl _ rfl rfl ?_) | (refine sL_loadA hS rfl _ _ rfl _ _ rfl 4 _ _ rfl _ rfl rfl ?_) | (refine sL_loadA hS rfl _ _ rfl _ _ rfl 5 _ _ rfl _ rfl rfl ?_)) | ((with_reducible refine gL_store ?_); first | (refine sL_store hS rfl _ _ _ rfl _ _ rfl 0 _ _ rfl _ (by go_simp; first | exact rfl | exact ⟨rfl, rfl⟩) rfl (by simp) ?_; clear hS; intro w' hS; simp only [List.set_cons_zero] at hS) | (refine sL_store hS rfl _ _ _ rfl _ _ rfl 1 _ _ rfl _ (by go_simp; first | exact rfl | exact ⟨rfl, rfl⟩) rfl (by simp) ?_; clear hS; intro w' hS; simp only [List.set_cons_zero, List.set_cons_succ] at hS) | (refine sL_store hS rfl _ _ _ rfl _ _ rfl 2 _ _ rfl _ (by go_simp; first | exact rfl | exact ⟨rfl, rfl⟩) rfl (by simp) ?_; clear hS; intro w' hS; simp only [List.set_cons_zero, List.set_cons_succ] at hS) | (refine sL_store hS rfl _ _ _ rfl _ _ rfl 3 _ _ rfl _ (by go_simp; first | exact rfl | exact ⟨rfl, rfl⟩) rfl (by simp) ?_; clear hS; intro w' hS; simp only [List.set_cons_zero, List.set_cons_succ] at hS) | (refine sL_store hS rfl _ _ _ rfl _ _ rfl 4 _ _ rfl _ (by go_simp; first | exact rfl | exact ⟨rfl, rfl⟩) rfl (by simp) ?_; clear hS; intro w' hS; simp only [List.set_cons_zero, List.set_cons_succ] at hS) | (refine sL_store hS rfl _ _ _ rfl _ _ rfl 5 _ _ rfl _ (by go_simp; first | exact rfl | exact ⟨rfl, rfl⟩) rfl (by simp) ?_; clear hS; intro w' hS; simp only [List.set_cons_zero, List.set_cons_succ] at hS) | (refine sL_storeB hS rfl _ _ _ rfl _ rfl 0 _ _ rfl _ (by go_simp; first | exact rfl | exact ⟨rfl, rfl⟩) (by rfl) (by rfl) (by simp [Value.oneCell']) ?_; clear hS; intro w' hS; simp only [List.set_cons_zero] at hS) | (refine sL_storeB hS rfl _ _ _ rfl _ rfl 1 _ _ rfl _ (by go_simp; first | exact rfl | exact ⟨rfl, rfl⟩) (by rfl) (by rfl) (by simp [Value.oneCell']) ?_; clear hS; intro w' hS; simp only [List.set_cons_zero, List.set_cons_succ] at hS) | (refine sL_storeB hS rfl _ _ _ rfl _ rfl 2 _ _ rfl _ (by go_simp; first | exact rfl | exact ⟨rfl, rfl⟩) (by rfl) (by rfl) (by simp [Value.oneCell']) ?_; clear hS; intro w' hS; simp only [List.set_cons_zero, List.set_cons_succ] at hS) | (refine sL_storeB hS rfl _ _ _ rfl _ rfl 3 _ _ rfl _ (by go_simp; first | exact rfl | exact ⟨rfl, rfl⟩) (by rfl) (by rfl) (by simp [Value.oneCell']) ?_; clear hS; intro w' hS; simp only [List.set_cons_zero, List.set_cons_succ] at hS) | (refine sL_storeB hS rfl _ _ _ rfl _ rfl 4 _ _ rfl _ (by go_simp; first | exact rfl | exact ⟨rfl, rfl⟩) (by rfl) (by rfl) (by simp [Value.oneCell']) ?_; clear hS; intro w' hS; simp only [List.set_cons_zero, List.set_cons_succ] at hS) | (refine sL_storeB hS rfl _ _ _ rfl _ rfl 5 _ _ rfl _ (by go_simp; first | exact rfl | exact ⟨rfl, rfl⟩) (by rfl) (by rfl) (by simp [Value.oneCell']) ?_; clear hS; intro w' hS; simp only [List.set_cons_zero, List.set_cons_succ] at hS)) | ((with_reducible refine gL_alloc ?_); (refine sL_alloc hS rfl _ rfl ?_; clear hS; intro b w' hb hS)) | ((with_reducible refine gL_box ?_); (refine sL_box hS rfl _ _ rfl _ (by go_simp; first | exact rfl | exact ⟨rfl, rfl⟩) ?_; clear hS; intro b w' hb hS))) | (go_at_call 53; refine (hmay hS.hI).mono ?_; rintro e w' ⟨rfl, hn⟩; rw [hm]; replace hS := hS.pure0 hn; clear hn))
            go_ret2
            show ValuePost _ _ _ _ _
            unfold ValuePost
            rw [Hv.out, if_neg (by rw [hm]; simp), if_neg h77, if_neg h79, if_neg (by omega)]
            exact ⟨rfl, I, hS.drop⟩
        · have h81i : ¬ (81 : Int) ≤ n := by omega
          go_enter Tryz.func75, Tryz.ntmps75
          go_wp2_with (first | ((with_reducible refine gL_box ?_); (refine sL_box hS rfl _ _ rfl _ (by go_simp; first | exact rfl | exact ⟨rfl, rfl⟩) ?_; clear hS; intro b1 w' hb1 hS)) | (first | ((with_reducible refine gL_load ?_); first | (refine sL_load hS rfl _ _ rfl _ _ rfl 0 _ _ rfl _ rfl ?_) | (refine sL_load hS rfl _ _ rfl _ _ rfl 1 _ _ rfl _ rfl ?_) | (refine sL_load hS rfl _ _ rfl _ _ rfl 2 _ _ rfl _ rfl ?_) | (refine sL_load hS rfl _ _ rfl _ _ rfl 3 _ _ rfl _ rfl ?_) | (refine sL_load hS rfl _ _ rfl _ _ rfl 4 _ _ rfl _ rfl ?_) | (refine sL_load hS rfl _ _ rfl _ _ rfl 5 _ _ rfl _ rfl ?_) | (refine sL_loadA hS rfl _ _ rfl _ _ rfl 0 _ _ rfl _ rfl rfl ?_) | (refine sL_loadA hS rfl _ _ rfl _ _ rfl 1 _ _ rfl _ rfl rfl ?_) | (refine sL_loadA hS rfl _ _ rfl _ _ rfl 2 _ _ rfl _ rfl rfl ?_) | (refine sL_loadA hS rfl _ _ rfl _ _ rfl 3 _ _ rfl _ rfl rfl ?_) | (refine sL_loadA hS rfl _ _ rfl _ _ rfl 4 _ _ rfl _ rfl rfl ?_) | (refine sL_loadA hS rfl _ _ rfl _ _ rfl 5 _ _ rfl _ rfl rfl ?_)) | ((with_reducible refine gL_store ?_); first | (refine sL_store hS rfl _ _ _ rfl _ _ rfl 0 _ _ rfl _ (by go_simp; first | exact rfl | exact ⟨rfl, rfl⟩) rfl (by simp) ?_; clear hS; intro w' hS; simp only [List.set_cons_zero] at hS) | (refine sL_store hS rfl _ _ _ rfl _ _ rfl 1 _ _ rfl _ (by go_simp; first | exact rfl | exact ⟨rfl, rfl⟩) rfl (by simp) ?_; clear hS; intro w' hS; simp only [List.set_cons_zero, List.set_cons_succ] at hS) | (refine sL_store hS rfl _ _ _ rfl _ _ rfl 2 _ _ rfl _ (by go_simp; first | exact rfl | exact ⟨rfl, rfl⟩) rfl (by simp) ?_; clear hS; intro w' hS; simp only [List.set_cons_zero, List.set_cons_succ] at hS) | (refine sL_store hS rfl _ _ _ rfl _ _ rfl 3 _ _ rfl _ (by go_simp; first | exact rfl | exact ⟨rfl, rfl⟩) rfl (by simp) ?_; clear hS; intro w' hS; simp only [List.set_cons_zero, List.set_cons_succ] at hS) | (refine sL_store hS rfl _ _ _ rfl _ _ rfl 4 _ _ rfl _ (by go_simp; first | exact rfl | exact ⟨rfl, rfl⟩) rfl (by simp) ?_; clear hS; intro w' hS; simp only [List.set_cons_zero, List.set_cons_succ] at hS) | (refine sL_store hS rfl _ _ _ rfl _ _ rfl 5 _ _ rfl _ (by go_simp; first | exact rfl | exact ⟨rfl, rfl⟩) rfl (by simp) ?_; clear hS; intro w' hS; simp only [List.set_cons_zero, List.set_cons_succ] at hS) | (refine sL_storeB hS rfl _ _ _ rfl _ rfl 0 _ _ rfl _ (by go_simp; first | exact rfl | exact ⟨rfl, rfl⟩) (by rfl) (by rfl) (by simp [Value.oneCell']) ?_; clear hS; intro w' hS; simp only [List.set_cons_zero] at hS) | (refine sL_storeB hS rfl _ _ _ rfl _ rfl 1 _ _ rfl _ (by go_simp; first | exact rfl | exact ⟨rfl, rfl⟩) (by rfl) (by rfl) (by simp [Value.oneCell']) ?_; clear hS; intro w' hS; simp only [List.set_cons_zero, List.set_cons_succ] at hS) | (refine sL_storeB hS rfl _ _ _ rfl _ rfl 2 _ _ rfl _ (by go_simp; first | exact rfl | exact ⟨rfl, rfl⟩) (by rfl) (by rfl) (by simp [Value.oneCell']) ?_; clear hS; intro w' hS; simp only [List.set_cons_zero, List.set_cons_succ] at hS) | (refine sL_storeB hS rfl _ _ _ rfl _ rfl 3 _ _ rfl _ (by go_simp; first | exact rfl | exact ⟨rfl, rfl⟩) (by rfl) (by rfl) (by simp [Value.oneCell']) ?_; clear hS; intro w' hS; simp only [List.set_cons_zero, List.set_cons_succ] at hS) | (refine sL_storeB hS rfl _ _ _ rfl _ rfl 4 _ _ rfl _ (by go_simp; first | exact rfl | exact ⟨rfl, rfl⟩) (by rfl) (by rfl) (by simp [Value.oneCell']) ?_; clear hS; intro w' hS; simp only [List.set_cons_zero, List.set_cons_succ] at hS) | (refine sL_storeB hS rfl _ _ _ rfl _ rfl 5 _ _ rfl _ (by go_simp; first | exact rfl | exact ⟨rfl, rfl⟩) (by rfl) (by rfl) (by simp [Value.oneCell']) ?_; clear hS; intro w' hS; simp only [List.set_cons_zero, List.set_cons_succ] at hS)) | ((with_reducible refine gL_alloc ?_); (refine sL_alloc hS rfl _ rfl ?_; clear hS; intro b w' hb hS)) | ((with_reducible refine gL_box ?_); (refine sL_box hS rfl _ _ rfl _ (by go_simp; first | exact rfl | exact ⟨rfl, rfl⟩) ?_; clear hS; intro b w' hb hS))) | (go_at_call 53; refine (hmay hS.hI).mono ?_; rintro e w' ⟨rfl, hn⟩; rw [hm]; replace hS := hS.pure0 hn; clear hn))
          go_ret2
          show ValuePost _ _ _ _ _
          unfold ValuePost
          rw [Hv.out, if_neg (by rw [hm]; simp), if_neg h77, if_neg h79, if_neg (by omega)]
          exact ⟨rfl, I, hS.drop⟩
end Go.Proofs.YtmlgieclkedomaaGreat

namespace Go.Proofs.YtmlgieclkedomaaGreat
open Go Go.RowKit
attribute [local go_sem] Oper.semAt_some

theorem run_load1 {P : Program} {w : World} {T b j : Nat} {v : Value} (hs : scalar P T = true) (hc : w.cell? ⟨b, j, none⟩ = some v) : (loadVar T ⟨b, j, none⟩).run P w = .ok v w := by
  unfold scalar at hs
  cases hu : P.underlying T with
  | none => rw [hu] at hs; cases hs
  | some d =>
    have hagg : (isAgg T).run P w = .ok false w := by
      unfold isAgg
      rw [Sem.run_bind, run_underlying hu w]
      rw [hu] at hs
      cases d <;> simp_all [Result.andThen]
    simp [loadVar, hagg, Result.andThen, go_sem, hc]
/-- one result, a plain one in a cell -/
theorem res_c1 {P : Program} {fn : Func} {p : Tmp} {T : TypeId} (h : fn.results = #[.cell p T]) {tmps : Array Value} {w : World} {L0 : List Item} {I0 I : Imm} {w0 : World} {L : List Item} (hS : Nx L0 I0 w0 I L w)
    {b : Nat} (hp : tmps.getD p undef = .pointer (some ⟨b, 0, none⟩)) (i : Nat) {v : Value} {e : TypeId} (hi : L[i]? = some (.blk b [v] e)) [hT : Scal P T] :
    (results fn tmps).run P w = .ok v w := by
  have hl := run_load1 (P := P) (T := T) hT.pf (hS.blkCell i hi 0 rfl)
  have hp' : tmps[p]?.getD undef = .pointer (some ⟨b, 0, none⟩) := by simpa using hp
  simp [results, h, hp', asAddr, hl]
theorem allL_len (m : Nat) : ∀ s : Bs, s.length ≤ m → ∀ x ∈ allL s, x.1.data.length ≤ s.length := by
  induction m with
  | zero =>
    intro s hs x hx
    obtain rfl : s = [] := List.eq_nil_of_length_eq_zero (by omega)
    rw [allL_nil] at hx; cases hx
  | succ m ih =>
    intro s hs x hx
    cases s with
    | nil => rw [allL_nil] at hx; cases hx
    | cons c l =>
      cases hlb : longB (c :: l) with
      | none =>
        rw [allL_none hlb, List.mem_singleton] at hx
        subst hx; exact Nat.zero_le _
      | some da =>
        obtain ⟨d, a⟩ := da
        obtain ⟨h1, h2, h3⟩ := longB_le hlb
        rw [allL_some hlb] at hx
        rcases List.mem_cons.1 hx with rfl | hx
        · simp only [List.length_take, List.length_drop]; omega
        · have := ih _ (by rw [List.length_drop]; simp at hs h2 ⊢; omega) x hx
          rw [List.length_drop] at this; omega
def pushOne (x : OpS × Bool) : Bool := x.2 && (valueB x.1).isSome
theorem pushesB_eq (s : Bs) : pushesB s = (allL s).all pushOne := by
  unfold pushesB allL
  rw [List.all_append, List.all_map]
  have e : (pushOne ∘ fun o => ((o, true) : OpS × Bool)) = fun o => (valueB o).isSome := by funext o; simp [pushOne]
  rw [e]
  cases (splitG s).2 <;> simp [pushOne]
def psInv (I1 : Imm) (rb : Nat) (pre : List (OpS × Bool)) (J : Imm) (B : List Item) : Prop := I1.Le J ∧ pre.all pushOne = true ∧ B = [.blk rb [.bool false] 4]
def psBad (I1 : Imm) (rb : Nat) (c : Code) (pre : List (OpS × Bool)) (J : Imm) (B : List Item) : Prop := c = .ret ∧ I1.Le J ∧ pre.all pushOne = false ∧ B = [.blk rb [.bool false] 4]

set_option maxRecDepth 10000 in
set_option maxHeartbeats 1000000 in
theorem Pushes_spec {I : Imm} {w : World} (hI : I.Holds w) {v : Value} {s : Bs} (h : RdB I v s) (hl : s.length ≤ 1000000) :
    Calls Tryz.prog 55 #[v] w fun e w' => ∃ J, e = .returned (.bool (pushesB s)) ∧ Nx [] I w J [] w' := by
  refine (callsIn_wide (n := 0)).1 ?_
  have hS := Nx.nil hI
  obtain ⟨va, vc, rfl, -, -, -⟩ := h.ex
  rw [pushesB_eq]
  have hdl := allL_len _ s (Nat.le_refl _)
  (refine callsIn_of_wp_marks Tryz.func55 rfl trivial ?_; simp only [Tryz.ntmps55, List.size_toArray, List.length_cons, List.length_nil, Nat.reduceAdd, Nat.reduceSub, Array.replicate_succ, Array.replicate_zero, List.push_toArray, List.append_toArray, List.nil_append, List.cons_append])
  gi_wp2_with (first | with_reducible refine wpIn_scope_straight ?_ | with_reducible refine wpIn_label ?_ | (refine sN_alloc hS rfl 4 rfl ?_; clear hS; intro rb w' hrb hS) | (refine ⟨trivial, rfl, ?_⟩; gi_at_call 47; refine (callsIn_wide.2 (all_spec hS.hI)).mono ?_; rintro e w' ⟨bp, rfl, hn2⟩; replace hS := hS.pure1 hn2; clear hn2))
  refine wpIn_rangeR (α := OpS × Bool) (gf := 70) rfl (enters_of Tryz.func70 (by kernel_rfl) rfl) (Lit := [_]) hS (fun w1 h1 => all1_emits h hl) (fun x I args hx => by obtain ⟨vs, rfl, _⟩ := hx; rfl)
    (psInv I rb) (psBad I rb) (fun pre J K B hle hi => ⟨hi.1.trans hle, hi.2⟩) ⟨Imm.Le.refl _, rfl, rfl⟩ ?round ?done ?stop
  case round =>
    clear hS
    rintro l2 pre ⟨o, b⟩ I1 B1 w1 args hpre ⟨vs, rfl, hop⟩ hin1 ⟨hle1, hall, rfl⟩
    have hmem : (o, b) ∈ allL s := hpre.subset (by simp)
    have hol : o.data.length ≤ 1000000 := by have := hdl _ hmem; simp only at this; omega
    have hval := fun {w : World} (hI : I1.Holds w) => Value_spec hI hop hol
    have hall2 : (pre ++ [(o, b)]).all pushOne = (b && (valueB o).isSome) := by rw [List.all_append, hall]; simp [pushOne]
    obtain ⟨oa, oc, rfl, hrdo⟩ := hop
    have hS := hin1.nx
    clear hpre hmem hdl
    simp only
    have hone : ∀ u ∈ [bv o.code, Value.slice oa o.data.length oc], u.oneCell' = true := fun u hu => by
      rcases List.mem_cons.1 hu with rfl | hu
      · rfl
      · rcases List.mem_cons.1 hu with rfl | hu
        · rfl
        · cases hu
    gi_wp2_with (first | (refine sN_alloc hS rfl 30 rfl ?_; clear hS; intro ob w' hob hS) | ((with_reducible refine gN_store ?_); refine Stop.of ?_))
    refine Stop.to ?_
    refine sN_storeB hS rfl _ _ _ rfl _ rfl 0 _ _ rfl [bv o.code, .slice oa o.data.length oc] rfl rfl rfl hone ?_
    clear hS
    intro w' hS
    simp only [List.set_cons_zero] at hS
    gi_wp2_with fail
    refine ⟨_, _, hS, fun w2 hin2 => ?_⟩
    have hS := hin2.nx
    clear hin1 hin2
    have hval2 : ∀ {w : World}, I1.Holds w → Calls Tryz.prog 75 #[.agg [bv o.code, Value.slice oa o.data.length oc].toArray] w (ValuePost I1 w o) := hval
    unfold ValuePost at hval2
    cases hvb : valueB o with
    | none =>
      rw [hvb] at hval2 hall2
      have Hall := Lib.hid hall2
      clear hall2 hval hvb
      cases b
      all_goals
        gi_wp2_with (first | ((with_reducible refine gN_load ?_); refine sN_loadA hS rfl _ _ rfl _ _ rfl 0 _ _ rfl [bv o.code, .slice oa o.data.length oc] rfl rfl ?_) | (refine ⟨trivial, rfl, ?_⟩; gi_at_call 75; refine (CallsIn.inRound _ (callsIn_wide.2 (hval2 hS.hI))).mono ?_; rintro e w' ⟨rfl, J2, hn⟩; have hle2 := hn.le hS.hI; replace hS := hS.pure0 hn; clear hn) | (first | with_reducible refine wpIn_scope_straight ?_ | with_reducible refine wpIn_label ?_ | ((with_reducible refine gN_load ?_); first | (refine sN_load hS rfl _ _ rfl _ _ rfl 0 _ _ rfl _ rfl ?_) | (refine sN_load hS rfl _ _ rfl _ _ rfl 1 _ _ rfl _ rfl ?_) | (refine sN_load hS rfl _ _ rfl _ _ rfl 2 _ _ rfl _ rfl ?_) | (refine sN_load hS rfl _ _ rfl _ _ rfl 3 _ _ rfl _ rfl ?_) | (refine sN_load hS rfl _ _ rfl _ _ rfl 4 _ _ rfl _ rfl ?_) | (refine sN_load hS rfl _ _ rfl _ _ rfl 5 _ _ rfl _ rfl ?_) | (refine sN_loadA hS rfl _ _ rfl _ _ rfl 0 _ _ rfl _ rfl rfl ?_) | (refine sN_loadA hS rfl _ _ rfl _ _ rfl 1 _ _ rfl _ rfl rfl ?_) | (refine sN_loadA hS rfl _ _ rfl _ _ rfl 2 _ _ rfl _ rfl rfl ?_) | (refine sN_loadA hS rfl _ _ rfl _ _ rfl 3 _ _ rfl _ rfl rfl ?_) | (refine sN_loadA hS rfl _ _ rfl _ _ rfl 4 _ _ rfl _ rfl rfl ?_) | (refine sN_loadA hS rfl _ _ rfl _ _ rfl 5 _ _ rfl _ rfl rfl ?_)) | ((with_reducible refine gN_store ?_); first | (refine sN_store hS rfl _ _ _ rfl _ _ rfl 0 _ _ rfl _ (by go_simp; first | exact rfl | exact ⟨rfl, rfl⟩) rfl (by simp) ?_; clear hS; intro w' hS; simp only [List.set_cons_zero] at hS) | (refine sN_store hS rfl _ _ _ rfl _ _ rfl 1 _ _ rfl _ (by go_simp; first | exact rfl | exact ⟨rfl, rfl⟩) rfl (by simp) ?_; clear hS; intro w' hS; simp only [List.set_cons_zero, List.set_cons_succ] at hS) | (refine sN_store hS rfl _ _ _ rfl _ _ rfl 2 _ _ rfl _ (by go_simp; first | exact rfl | exact ⟨rfl, rfl⟩) rfl (by simp) ?_; clear hS; intro w' hS; simp only [List.set_cons_zero, List.set_cons_succ] at hS) | (refine sN_store hS rfl _ _ _ rfl _ _ rfl 3 _ _ rfl _ (by go_simp; first | exact rfl | exact ⟨rfl, rfl⟩) rfl (by simp) ?_; clear hS; intro w' hS; simp only [List.set_cons_zero, List.set_cons_succ] at hS) | (refine sN_store hS rfl _ _ _ rfl _ _ rfl 4 _ _ rfl _ (by go_simp; first | exact rfl | exact ⟨rfl, rfl⟩) rfl (by simp) ?_; clear hS; intro w' hS; simp only [List.set_cons_zero, List.set_cons_succ] at hS) | (refine sN_store hS rfl _ _ _ rfl _ _ rfl 5 _ _ rfl _ (by go_simp; first | exact rfl | exact ⟨rfl, rfl⟩) rfl (by simp) ?_; clear hS; intro w' hS; simp only [List.set_cons_zero, List.set_cons_succ] at hS) | (refine sN_storeB hS rfl _ _ _ rfl _ rfl 0 _ _ rfl _ (by go_simp; first | exact rfl | exact ⟨rfl, rfl⟩) (by rfl) (by rfl) (by simp [Value.oneCell']) ?_; clear hS; intro w' hS; simp only [List.set_cons_zero] at hS) | (refine sN_storeB hS rfl _ _ _ rfl _ rfl 1 _ _ rfl _ (by go_simp; first | exact rfl | exact ⟨rfl, rfl⟩) (by rfl) (by rfl) (by simp [Value.oneCell']) ?_; clear hS; intro w' hS; simp only [List.set_cons_zero, List.set_cons_succ] at hS) | (refine sN_storeB hS rfl _ _ _ rfl _ rfl 2 _ _ rfl _ (by go_simp; first | exact rfl | exact ⟨rfl, rfl⟩) (by rfl) (by rfl) (by simp [Value.oneCell']) ?_; clear hS; intro w' hS; simp only [List.set_cons_zero, List.set_cons_succ] at hS) | (refine sN_storeB hS rfl _ _ _ rfl _ rfl 3 _ _ rfl _ (by go_simp; first | exact rfl | exact ⟨rfl, rfl⟩) (by rfl) (by rfl) (by simp [Value.oneCell']) ?_; clear hS; intro w' hS; simp only [List.set_cons_zero, List.set_cons_succ] at hS) | (refine sN_storeB hS rfl _ _ _ rfl _ rfl 4 _ _ rfl _ (by go_simp; first | exact rfl | exact ⟨rfl, rfl⟩) (by rfl) (by rfl) (by simp [Value.oneCell']) ?_; clear hS; intro w' hS; simp only [List.set_cons_zero, List.set_cons_succ] at hS) | (refine sN_storeB hS rfl _ _ _ rfl _ rfl 5 _ _ rfl _ (by go_simp; first | exact rfl | exact ⟨rfl, rfl⟩) (by rfl) (by rfl) (by simp [Value.oneCell']) ?_; clear hS; intro w' hS; simp only [List.set_cons_zero, List.set_cons_succ] at hS)) | ((with_reducible refine gN_alloc ?_); (refine sN_alloc hS rfl _ rfl ?_; clear hS; intro b w' hb hS)) | ((with_reducible refine gN_box ?_); (refine sN_box hS rfl _ _ rfl _ (by go_simp; first | exact rfl | exact ⟨rfl, rfl⟩) ?_; clear hS; intro b w' hb hS))))
        refine ⟨_, _, hS.drop, rfl, hle1.trans hle2, ?_, rfl⟩
        rw [Hall.out]; rfl
    | some vb =>
      rw [hvb] at hval2 hall2
      have Hall := Lib.hid hall2
      clear hall2 hval hvb
      cases b with
      | false =>
        gi_wp2_with (first | ((with_reducible refine gN_load ?_); refine sN_loadA hS rfl _ _ rfl _ _ rfl 0 _ _ rfl [bv o.code, .slice oa o.data.length oc] rfl rfl ?_) | (refine ⟨trivial, rfl, ?_⟩; gi_at_call 75; refine (CallsIn.inRound _ (callsIn_wide.2 (hval2 hS.hI))).mono ?_; rintro e w' ⟨J2, ra, rc, rfl, _, hn⟩; have hle2 := hn.le hS.hI; replace hS := hS.pure0 hn; clear hn) | (first | with_reducible refine wpIn_scope_straight ?_ | with_reducible refine wpIn_label ?_ | ((with_reducible refine gN_load ?_); first | (refine sN_load hS rfl _ _ rfl _ _ rfl 0 _ _ rfl _ rfl ?_) | (refine sN_load hS rfl _ _ rfl _ _ rfl 1 _ _ rfl _ rfl ?_) | (refine sN_load hS rfl _ _ rfl _ _ rfl 2 _ _ rfl _ rfl ?_) | (refine sN_load hS rfl _ _ rfl _ _ rfl 3 _ _ rfl _ rfl ?_) | (refine sN_load hS rfl _ _ rfl _ _ rfl 4 _ _ rfl _ rfl ?_) | (refine sN_load hS rfl _ _ rfl _ _ rfl 5 _ _ rfl _ rfl ?_) | (refine sN_loadA hS rfl _ _ rfl _ _ rfl 0 _ _ rfl _ rfl rfl ?_) | (refine sN_loadA hS rfl _ _ rfl _ _ rfl 1 _ _ rfl _ rfl rfl ?_) | (refine sN_loadA hS rfl _ _ rfl _ _ rfl 2 _ _ rfl _ rfl rfl ?_) | (refine sN_loadA hS rfl _ _ rfl _ _ rfl 3 _ _ rfl _ rfl rfl ?_) | (refine sN_loadA hS rfl _ _ rfl _ _ rfl 4 _ _ rfl _ rfl rfl ?_) | (refine sN_loadA hS rfl _ _ rfl _ _ rfl 5 _ _ rfl _ rfl rfl ?_)) | ((with_reducible refine gN_store ?_); first | (refine sN_store hS rfl _ _ _ rfl _ _ rfl 0 _ _ rfl _ (by go_simp; first | exact rfl | exact ⟨rfl, rfl⟩) rfl (by simp) ?_; clear hS; intro w' hS; simp only [List.set_cons_zero] at hS) | (refine sN_store hS rfl _ _ _ rfl _ _ rfl 1 _ _ rfl _ (by go_simp; first | exact rfl | exact ⟨rfl, rfl⟩) rfl (by simp) ?_; clear hS; intro w' hS; simp only [List.set_cons_zero, List.set_cons_succ] at hS) | (refine sN_store hS rfl _ _ _ rfl _ _ rfl 2 _ _ rfl _ (by go_simp; first | exact rfl | exact ⟨rfl, rfl⟩) rfl (by simp) ?_; clear hS; intro w' hS; simp only [List.set_cons_zero, List.set_cons_succ] at hS) | (refine sN_store hS rfl _ _ _ rfl _ _ rfl 3 _ _ rfl _ (by go_simp; first | exact rfl | exact ⟨rfl, rfl⟩) rfl (by simp) ?_; clear hS; intro w' hS; simp only [List.set_cons_zero, List.set_cons_succ] at hS) | (refine sN_store hS rfl _ _ _ rfl _ _ rfl 4 _ _ rfl _ (by go_simp; first | exact rfl | exact ⟨rfl, rfl⟩) rfl (by simp) ?_; clear hS; intro w' hS; simp only [List.set_cons_zero, List.set_cons_succ] at hS) | (refine sN_store hS rfl _ _ _ rfl _ _ rfl 5 _ _ rfl _ (by go_simp; first | exact rfl | exact ⟨rfl, rfl⟩) rfl (by simp) ?_; clear hS; intro w' hS; simp only [List.set_cons_zero, List.set_cons_succ] at hS) | (refine sN_storeB hS rfl _ _ _ rfl _ rfl 0 _ _ rfl _ (by go_simp; first | exact rfl | exact ⟨rfl, rfl⟩) (by rfl) (by rfl) (by simp [Value.oneCell']) ?_; clear hS; intro w' hS; simp only [List.set_cons_zero] at hS) | (refine sN_storeB hS rfl _ _ _ rfl _ rfl 1 _ _ rfl _ (by go_simp; first | exact rfl | exact ⟨rfl, rfl⟩) (by rfl) (by rfl) (by simp [Value.oneCell']) ?_; clear hS; intro w' hS; simp only [List.set_cons_zero, List.set_cons_succ] at hS) | (refine sN_storeB hS rfl _ _ _ rfl _ rfl 2 _ _ rfl _ (by go_simp; first | exact rfl | exact ⟨rfl, rfl⟩) (by rfl) (by rfl) (by simp [Value.oneCell']) ?_; clear hS; intro w' hS; simp only [List.set_cons_zero, List.set_cons_succ] at hS) | (refine sN_storeB hS rfl _ _ _ rfl _ rfl 3 _ _ rfl _ (by go_simp; first | exact rfl | exact ⟨rfl, rfl⟩) (by rfl) (by rfl) (by simp [Value.oneCell']) ?_; clear hS; intro w' hS; simp only [List.set_cons_zero, List.set_cons_succ] at hS) | (refine sN_storeB hS rfl _ _ _ rfl _ rfl 4 _ _ rfl _ (by go_simp; first | exact rfl | exact ⟨rfl, rfl⟩) (by rfl) (by rfl) (by simp [Value.oneCell']) ?_; clear hS; intro w' hS; simp only [List.set_cons_zero, List.set_cons_succ] at hS) | (refine sN_storeB hS rfl _ _ _ rfl _ rfl 5 _ _ rfl _ (by go_simp; first | exact rfl | exact ⟨rfl, rfl⟩) (by rfl) (by rfl) (by simp [Value.oneCell']) ?_; clear hS; intro w' hS; simp only [List.set_cons_zero, List.set_cons_succ] at hS)) | ((with_reducible refine gN_alloc ?_); (refine sN_alloc hS rfl _ rfl ?_; clear hS; intro b w' hb hS)) | ((with_reducible refine gN_box ?_); (refine sN_box hS rfl _ _ rfl _ (by go_simp; first | exact rfl | exact ⟨rfl, rfl⟩) ?_; clear hS; intro b w' hb hS))))
        refine ⟨_, _, hS.drop, rfl, hle1.trans hle2, ?_, rfl⟩
        rw [Hall.out]; rfl
      | true =>
        gi_wp2_with (first | ((with_reducible refine gN_load ?_); refine sN_loadA hS rfl _ _ rfl _ _ rfl 0 _ _ rfl [bv o.code, .slice oa o.data.length oc] rfl rfl ?_) | (refine ⟨trivial, rfl, ?_⟩; gi_at_call 75; refine (CallsIn.inRound _ (callsIn_wide.2 (hval2 hS.hI))).mono ?_; rintro e w' ⟨J2, ra, rc, rfl, _, hn⟩; have hle2 := hn.le hS.hI; replace hS := hS.pure0 hn; clear hn) | (first | with_reducible refine wpIn_scope_straight ?_ | with_reducible refine wpIn_label ?_ | ((with_reducible refine gN_load ?_); first | (refine sN_load hS rfl _ _ rfl _ _ rfl 0 _ _ rfl _ rfl ?_) | (refine sN_load hS rfl _ _ rfl _ _ rfl 1 _ _ rfl _ rfl ?_) | (refine sN_load hS rfl _ _ rfl _ _ rfl 2 _ _ rfl _ rfl ?_) | (refine sN_load hS rfl _ _ rfl _ _ rfl 3 _ _ rfl _ rfl ?_) | (refine sN_load hS rfl _ _ rfl _ _ rfl 4 _ _ rfl _ rfl ?_) | (refine sN_load hS rfl _ _ rfl _ _ rfl 5 _ _ rfl _ rfl ?_) | (refine sN_loadA hS rfl _ _ rfl _ _ rfl 0 _ _ rfl _ rfl rfl ?_) | (refine sN_loadA hS rfl _ _ rfl _ _ rfl 1 _ _ rfl _ rfl rfl ?_) | (refine sN_loadA hS rfl _ _ rfl _ _ rfl 2 _ _ rfl _ rfl rfl ?_) | (refine sN_loadA hS rfl _ _ rfl _ _ rfl 3 _ _ rfl _ rfl rfl ?_) | (refine sN_loadA hS rfl _ _ rfl _ _ rfl 4 _ _ rfl _ rfl rfl ?_) | (refine sN_loadA hS rfl _ _ rfl _ _ rfl 5 _ _ rfl _ rfl rfl ?_)) | ((with_reducible refine gN_store ?_); first | (refine sN_store hS rfl _ _ _ rfl _ _ rfl 0 _ _ rfl _ (by go_simp; first | exact rfl | exact ⟨rfl, rfl⟩) rfl (by simp) ?_; clear hS; intro w' hS; simp only [List.set_cons_zero] at hS) | (refine sN_store hS rfl _ _ _ rfl _ _ rfl 1 _ _ rfl _ (by go_simp; first | exact rfl | exact ⟨rfl, rfl⟩) rfl (by simp) ?_; clear hS; intro w' hS; simp only [List.set_cons_zero, List.set_cons_succ] at hS) | (refine sN_store hS rfl _ _ _ rfl _ _ rfl 2 _ _ rfl _ (by go_simp; first | exact rfl | exact ⟨rfl, rfl⟩) rfl (by simp) ?_; clear hS; intro w' hS; simp only [List.set_cons_zero, List.set_cons_succ] at hS) | (refine sN_store hS rfl _ _ _ rfl _ _ rfl 3 _ _ rfl _ (by go_simp; first | exact rfl | exact ⟨rfl, rfl⟩) rfl (by simp) ?_; clear hS; intro w' hS; simp only [List.set_cons_zero, List.set_cons_succ] at hS) | (refine sN_store hS rfl _ _ _ rfl _ _ rfl 4 _ _ rfl _ (by go_simp; first | exact rfl | exact ⟨rfl, rfl⟩) rfl (by simp) ?_; clear hS; intro w' hS; simp only [List.set_cons_zero, List.set_cons_succ] at hS) | (refine sN_store hS rfl _ _ _ rfl _ _ rfl 5 _ _ rfl _ (by go_simp; first | exact rfl | exact ⟨rfl, rfl⟩) rfl (by simp) ?_; clear hS; intro w' hS; simp only [List.set_cons_zero, List.set_cons_succ] at hS) | (refine sN_storeB hS rfl _ _ _ rfl _ rfl 0 _ _ rfl _ (by go_simp; first | exact rfl | exact ⟨rfl, rfl⟩) (by rfl) (by rfl) (by simp [Value.oneCell']) ?_; clear hS; intro w' hS; simp only [List.set_cons_zero] at hS) | (refine sN_storeB hS rfl _ _ _ rfl _ rfl 1 _ _ rfl _ (by go_simp; first | exact rfl | exact ⟨rfl, rfl⟩) (by rfl) (by rfl) (by simp [Value.oneCell']) ?_; clear hS; intro w' hS; simp only [List.set_cons_zero, List.set_cons_succ] at hS) | (refine sN_storeB hS rfl _ _ _ rfl _ rfl 2 _ _ rfl _ (by go_simp; first | exact rfl | exact ⟨rfl, rfl⟩) (by rfl) (by rfl) (by simp [Value.oneCell']) ?_; clear hS; intro w' hS; simp only [List.set_cons_zero, List.set_cons_succ] at hS) | (refine sN_storeB hS rfl _ _ _ rfl _ rfl 3 _ _ rfl _ (by go_simp; first | exact rfl | exact ⟨rfl, rfl⟩) (by rfl) (by rfl) (by simp [Value.oneCell']) ?_; clear hS; intro w' hS; simp only [List.set_cons_zero, List.set_cons_succ] at hS) | (refine sN_storeB hS rfl _ _ _ rfl _ rfl 4 _ _ rfl _ (by go_simp; first | exact rfl | exact ⟨rfl, rfl⟩) (by rfl) (by rfl) (by simp [Value.oneCell']) ?_; clear hS; intro w' hS; simp only [List.set_cons_zero, List.set_cons_succ] at hS) | (refine sN_storeB hS rfl _ _ _ rfl _ rfl 5 _ _ rfl _ (by go_simp; first | exact rfl | exact ⟨rfl, rfl⟩) (by rfl) (by rfl) (by simp [Value.oneCell']) ?_; clear hS; intro w' hS; simp only [List.set_cons_zero, List.set_cons_succ] at hS)) | ((with_reducible refine gN_alloc ?_); (refine sN_alloc hS rfl _ rfl ?_; clear hS; intro b w' hb hS)) | ((with_reducible refine gN_box ?_); (refine sN_box hS rfl _ _ rfl _ (by go_simp; first | exact rfl | exact ⟨rfl, rfl⟩) ?_; clear hS; intro b w' hb hS))))
        refine ⟨_, _, hS.drop, hle1.trans hle2, ?_, rfl⟩
        rw [Hall.out]; rfl
  case done =>
    clear hS
    rintro D J B' w' hS ⟨hle1, hall, rfl⟩
    gi_wp2_with (first | ((with_reducible refine gN_store ?_); refine sN_store hS rfl _ _ _ rfl _ _ rfl 1 _ _ rfl (.bool true) rfl rfl (by simp) ?_; clear hS; intro w' hS; simp only [List.set_cons_zero, List.set_cons_succ] at hS))
    have hK : w'.heap[D]? = some (.deferred (some [])) := hS.get (i := 0) rfl
    have hS2 := ((hS.putObj (i := 0) rfl (.deferred none)).drop)
    exact ⟨by simp, .inl ⟨_, _, rfl, run_takeDeferred hK, ⟨_, res_c1 rfl hS2 rfl 0 rfl, J, by rw [hall], hS2.drop⟩⟩⟩
  case stop =>
    clear hS
    rintro D c pre J B' w' hS hpre ⟨rfl, hle1, hall, rfl⟩
    gi_wp2_with fail
    have hK : w'.heap[D]? = some (.deferred (some [])) := hS.get (i := 0) rfl
    have hS2 := ((hS.putObj (i := 0) rfl (.deferred none)).drop)
    have hall2 : (allL s).all pushOne = false := by
      obtain ⟨t, ht⟩ := hpre
      rw [← ht, List.all_append, hall]; rfl
    exact ⟨by simp, .inl ⟨_, _, rfl, run_takeDeferred hK, ⟨_, res_c1 rfl hS2 rfl 0 rfl, J, by rw [hall2], hS2.drop⟩⟩⟩
end Go.Proofs.YtmlgieclkedomaaGreat

namespace Go.Proofs.YtmlgieclkedomaaGreat
open Go Go.RowKit
attribute [local go_sem] Oper.semAt_some

theorem OpsAt.append {I : Imm} : ∀ {l : List OpS} {xs : List Value}, OpsAt I l xs → ∀ {o : OpS} {vs : List Value}, OpAt I o vs → OpsAt I (l ++ [o]) (xs ++ vs)
  | [], xs, h, o, vs, k => by
    have : xs = [] := h
    subst this
    exact ⟨vs, [], by simp, k, rfl⟩
  | a :: l, xs, h, o, vs, k => by
    obtain ⟨c, r, e, h1, h2⟩ := h
    exact ⟨c, r ++ vs, by rw [e, List.append_assoc], h1, OpsAt.append h2 k⟩
theorem allL_count (m : Nat) : ∀ s : Bs, s.length ≤ m → (allL s).length ≤ s.length := by
  induction m with
  | zero =>
    intro s hs
    obtain rfl : s = [] := List.eq_nil_of_length_eq_zero (by omega)
    rw [allL_nil]; exact Nat.le_refl _
  | succ m ih =>
    intro s hs
    cases s with
    | nil => rw [allL_nil]; exact Nat.le_refl _
    | cons c l =>
      cases hlb : longB (c :: l) with
      | none => rw [allL_none hlb]; simp
      | some da =>
        obtain ⟨d, a⟩ := da
        obtain ⟨h1, h2, h3⟩ := longB_le hlb
        rw [allL_some hlb]
        have := ih ((c :: l).drop (a + d)) (by rw [List.length_drop]; simp at hs h2 ⊢; omega)
        rw [List.length_drop] at this
        rw [List.length_cons]
        omega
theorem Nx.toNil {L0 : List Item} {I0 I : Imm} {w0 w : World} {B : List Item} (h : Nx L0 I0 w0 I B w) : Nx L0 I0 w0 I [] w := by
  induction B with
  | nil => exact h
  | cons a A ih => exact ih h.drop
/-- a part in which nothing panics -/
def noPanic (Q : Exit → Act → World → Prop) : Exit → Act → World → Prop
  | .panic _, _, _ => False
  | e, a, w => Q e a w
theorem noPanic_imp {Q : Exit → Act → World → Prop} : ∀ e a w, noPanic Q e a w → Q e a w := fun e a w h => by
  cases e <;> first | exact h | exact h.elim
theorem noPanic_normal {Q : Exit → Act → World → Prop} {a : Act} {w : World} (h : Q .normal a w) : noPanic Q .normal a w := h
def SplitPost (I : Imm) (w : World) (s : Bs) (e : Ending) (w' : World) : Prop :=
  match splitB s with
  | none => e = .returned (.tuple #[.slice none 0 0, .int .i64 100]) ∧ ∃ J, Nx [] I w J [] w'
  | some l => ∃ J v, e = .returned (.tuple #[v, .int .i64 0]) ∧ Nx [] I w J [] w' ∧ OpsRd J v l
def spInv (I1 : Imm) (eb lb : Nat) (pre : List (OpS × Bool)) (J : Imm) (B : List Item) : Prop :=
  I1.Le J ∧ (∀ y ∈ pre, y.2 = true) ∧ ∃ ad c xs, B = [.blk eb [.int .i64 0] 26, .blk lb [.slice ad pre.length c] 25, .row 2 30 (.slice ad pre.length c) pre.length xs] ∧ OpsAt J (pre.map (·.1)) xs
def spBad (I1 : Imm) (eb lb : Nat) (c : Code) (pre : List (OpS × Bool)) (J : Imm) (B : List Item) : Prop :=
  c = .exit 0 ∧ I1.Le J ∧ (∃ y ∈ pre, y.2 = false) ∧ ∃ v, ∃ B2, B = .blk eb [.int .i64 100] 26 :: .blk lb [v] 25 :: B2

set_option maxRecDepth 10000 in
set_option maxHeartbeats 1000000 in
theorem Split_spec {I : Imm} {w : World} (hI : I.Holds w) {v : Value} {s : Bs} (h : RdB I v s) (hl : s.length ≤ 1000000) :
    Calls Tryz.prog 14 #[v] w (SplitPost I w s) := by
  refine (callsIn_wide (n := 0)).1 ?_
  have hS := Nx.nil hI
  obtain ⟨va, vc, rfl, -, -, -⟩ := h.ex
  (refine callsIn_of_wp_marks Tryz.func14 rfl trivial ?_; simp only [Tryz.ntmps14, List.size_toArray, List.length_cons, List.length_nil, Nat.reduceAdd, Nat.reduceSub, Array.replicate_succ, Array.replicate_zero, List.push_toArray, List.append_toArray, List.nil_append, List.cons_append])
  gi_wp2_with (first | with_reducible refine wpIn_scope_straight ?_ | with_reducible refine wpIn_label ?_ | (refine sN_alloc hS rfl 25 rfl ?_; clear hS; intro lb w' hlb hS) | (refine sN_alloc hS rfl 26 rfl ?_; clear hS; intro eb w' heb hS) | (refine ⟨trivial, rfl, ?_⟩; gi_at_call 47; refine (callsIn_wide.2 (all_spec hS.hI)).mono ?_; rintro e w' ⟨bp, rfl, hn2⟩; replace hS := hS.pure1 hn2; clear hn2) | (first | with_reducible refine wpIn_scope_straight ?_ | with_reducible refine wpIn_label ?_ | ((with_reducible refine gN_load ?_); first | (refine sN_load hS rfl _ _ rfl _ _ rfl 0 _ _ rfl _ rfl ?_) | (refine sN_load hS rfl _ _ rfl _ _ rfl 1 _ _ rfl _ rfl ?_) | (refine sN_load hS rfl _ _ rfl _ _ rfl 2 _ _ rfl _ rfl ?_) | (refine sN_load hS rfl _ _ rfl _ _ rfl 3 _ _ rfl _ rfl ?_) | (refine sN_load hS rfl _ _ rfl _ _ rfl 4 _ _ rfl _ rfl ?_) | (refine sN_load hS rfl _ _ rfl _ _ rfl 5 _ _ rfl _ rfl ?_) | (refine sN_loadA hS rfl _ _ rfl _ _ rfl 0 _ _ rfl _ rfl rfl ?_) | (refine sN_loadA hS rfl _ _ rfl _ _ rfl 1 _ _ rfl _ rfl rfl ?_) | (refine sN_loadA hS rfl _ _ rfl _ _ rfl 2 _ _ rfl _ rfl rfl ?_) | (refine sN_loadA hS rfl _ _ rfl _ _ rfl 3 _ _ rfl _ rfl rfl ?_) | (refine sN_loadA hS rfl _ _ rfl _ _ rfl 4 _ _ rfl _ rfl rfl ?_) | (refine sN_loadA hS rfl _ _ rfl _ _ rfl 5 _ _ rfl _ rfl rfl ?_)) | ((with_reducible refine gN_store ?_); first | (refine sN_store hS rfl _ _ _ rfl _ _ rfl 0 _ _ rfl _ (by go_simp; first | exact rfl | exact ⟨rfl, rfl⟩) rfl (by simp) ?_; clear hS; intro w' hS; simp only [List.set_cons_zero] at hS) | (refine sN_store hS rfl _ _ _ rfl _ _ rfl 1 _ _ rfl _ (by go_simp; first | exact rfl | exact ⟨rfl, rfl⟩) rfl (by simp) ?_; clear hS; intro w' hS; simp only [List.set_cons_zero, List.set_cons_succ] at hS) | (refine sN_store hS rfl _ _ _ rfl _ _ rfl 2 _ _ rfl _ (by go_simp; first | exact rfl | exact ⟨rfl, rfl⟩) rfl (by simp) ?_; clear hS; intro w' hS; simp only [List.set_cons_zero, List.set_cons_succ] at hS) | (refine sN_store hS rfl _ _ _ rfl _ _ rfl 3 _ _ rfl _ (by go_simp; first | exact rfl | exact ⟨rfl, rfl⟩) rfl (by simp) ?_; clear hS; intro w' hS; simp only [List.set_cons_zero, List.set_cons_succ] at hS) | (refine sN_store hS rfl _ _ _ rfl _ _ rfl 4 _ _ rfl _ (by go_simp; first | exact rfl | exact ⟨rfl, rfl⟩) rfl (by simp) ?_; clear hS; intro w' hS; simp only [List.set_cons_zero, List.set_cons_succ] at hS) | (refine sN_store hS rfl _ _ _ rfl _ _ rfl 5 _ _ rfl _ (by go_simp; first | exact rfl | exact ⟨rfl, rfl⟩) rfl (by simp) ?_; clear hS; intro w' hS; simp only [List.set_cons_zero, List.set_cons_succ] at hS) | (refine sN_storeB hS rfl _ _ _ rfl _ rfl 0 _ _ rfl _ (by go_simp; first | exact rfl | exact ⟨rfl, rfl⟩) (by rfl) (by rfl) (by simp [Value.oneCell']) ?_; clear hS; intro w' hS; simp only [List.set_cons_zero] at hS) | (refine sN_storeB hS rfl _ _ _ rfl _ rfl 1 _ _ rfl _ (by go_simp; first | exact rfl | exact ⟨rfl, rfl⟩) (by rfl) (by rfl) (by simp [Value.oneCell']) ?_; clear hS; intro w' hS; simp only [List.set_cons_zero, List.set_cons_succ] at hS) | (refine sN_storeB hS rfl _ _ _ rfl _ rfl 2 _ _ rfl _ (by go_simp; first | exact rfl | exact ⟨rfl, rfl⟩) (by rfl) (by rfl) (by simp [Value.oneCell']) ?_; clear hS; intro w' hS; simp only [List.set_cons_zero, List.set_cons_succ] at hS) | (refine sN_storeB hS rfl _ _ _ rfl _ rfl 3 _ _ rfl _ (by go_simp; first | exact rfl | exact ⟨rfl, rfl⟩) (by rfl) (by rfl) (by simp [Value.oneCell']) ?_; clear hS; intro w' hS; simp only [List.set_cons_zero, List.set_cons_succ] at hS) | (refine sN_storeB hS rfl _ _ _ rfl _ rfl 4 _ _ rfl _ (by go_simp; first | exact rfl | exact ⟨rfl, rfl⟩) (by rfl) (by rfl) (by simp [Value.oneCell']) ?_; clear hS; intro w' hS; simp only [List.set_cons_zero, List.set_cons_succ] at hS) | (refine sN_storeB hS rfl _ _ _ rfl _ rfl 5 _ _ rfl _ (by go_simp; first | exact rfl | exact ⟨rfl, rfl⟩) (by rfl) (by rfl) (by simp [Value.oneCell']) ?_; clear hS; intro w' hS; simp only [List.set_cons_zero, List.set_cons_succ] at hS)) | ((with_reducible refine gN_alloc ?_); (refine sN_alloc hS rfl _ rfl ?_; clear hS; intro b w' hb hS)) | ((with_reducible refine gN_box ?_); (refine sN_box hS rfl _ _ rfl _ (by go_simp; first | exact rfl | exact ⟨rfl, rfl⟩) ?_; clear hS; intro b w' hb hS))))
  replace hS := Nx.rot (hS.nilRow 2 30)
  simp only [List.cons_append, List.nil_append] at hS
  have hdl := allL_len _ s (Nat.le_refl _)
  refine wpIn_rangeR (α := OpS × Bool) (gf := 70) rfl (enters_of Tryz.func70 (by kernel_rfl) rfl) (Lit := [_]) hS (fun w1 h1 => all1_emits h hl) (fun x I args hx => by obtain ⟨vs, rfl, _⟩ := hx; rfl)
    (spInv I eb lb) (spBad I eb lb) (fun pre J K B hle hi => ⟨hi.1.trans hle, hi.2.1, by obtain ⟨ad, c, xs, e, h⟩ := hi.2.2; exact ⟨ad, c, xs, e, h.mono hle⟩⟩) ⟨Imm.Le.refl _, by simp, none, 0, [], rfl, rfl⟩ ?round ?done ?stop
  case round =>
    clear hS
    rintro l2 pre ⟨o, b⟩ I1 B1 w1 args hpre ⟨vs, rfl, hop⟩ hin1 ⟨hle1, hall, ad, c, xs, rfl, hxs⟩
    have hpl : pre.length ≤ 1000000 := by
      have h1 := hpre.length_le
      have h2 := allL_count _ s (Nat.le_refl _)
      rw [List.length_append] at h1; omega
    obtain ⟨oa, oc, rfl, hrdo⟩ := hop
    have hS := hin1.nx
    have Hpre := Lib.hid hpre
    have Hall := Lib.hid hall
    have Hxs := Lib.hid hxs
    have hxl := OpsAt.len hxs
    clear hpre hdl hall hxs
    simp only
    have hone : ∀ u ∈ [bv o.code, Value.slice oa o.data.length oc], u.oneCell' = true := fun u hu => by
      rcases List.mem_cons.1 hu with rfl | hu
      · rfl
      · rcases List.mem_cons.1 hu with rfl | hu
        · rfl
        · cases hu
    gi_wp2_with (first | (refine sN_alloc hS rfl 30 rfl ?_; clear hS; intro ob w' hob hS) | ((with_reducible refine gN_store ?_); refine Stop.of ?_))
    refine Stop.to ?_
    refine sN_storeB hS rfl _ _ _ rfl _ rfl 0 _ _ rfl [bv o.code, .slice oa o.data.length oc] rfl rfl rfl hone ?_
    clear hS
    intro w' hS
    simp only [List.set_cons_zero] at hS
    gi_wp2_with fail
    refine ⟨_, _, hS, fun w2 hin2 => ?_⟩
    have hS := hin2.nx
    clear hin1 hin2
    cases b with
    | false =>
      gi_wp2_with (first | ((with_reducible refine gN_store ?_); refine sN_store hS rfl _ _ _ rfl _ _ rfl 1 _ _ rfl (.int .i64 100) rfl rfl (by simp) ?_; clear hS; intro w' hS; simp only [List.set_cons_zero, List.set_cons_succ] at hS))
      exact ⟨_, _, hS.drop, rfl, hle1, ⟨(o, false), by simp, rfl⟩, _, _, rfl⟩
    | true =>
      gi_wp2_with (first | ((with_reducible refine gN_load ?_); first | (refine sN_load hS rfl _ _ rfl _ _ rfl 2 _ _ rfl _ rfl ?_) | (refine sN_loadA hS rfl _ _ rfl _ _ rfl 0 _ _ rfl [bv o.code, .slice oa o.data.length oc] rfl rfl ?_)) | ((with_reducible refine gN_lit ?_); refine sN_lit12 hS rfl _ _ rfl (bv o.code) (.slice oa o.data.length oc) rfl ?_; clear hS; intro lb2 w' hlb2 hS) | ((with_reducible refine gN_app ?_); refine sN_append hS rfl _ _ _ rfl 4 _ _ _ rfl rfl _ _ _ _ rfl rfl (hS.srcBlk (i := 0) rfl) hone (by omega) ?_; clear hS; intro ad' c' w' hS hnil hown; simp only [List.set_cons_zero, List.set_cons_succ] at hS; replace hS := hS.drop) | ((with_reducible refine gN_store ?_); refine sN_store hS rfl _ _ _ rfl _ _ rfl 2 _ _ rfl (.slice ad' (pre.length + 1) c') rfl rfl (by simp) ?_; clear hS; intro w' hS; simp only [List.set_cons_zero, List.set_cons_succ] at hS))
      refine ⟨_, _, hS.drop, hle1, fun y hy => ?_, ad', c', _, by rw [List.length_append, List.length_singleton], ?_⟩
      · rcases List.mem_append.1 hy with hy | hy
        · exact Hall.out y hy
        · rw [List.mem_singleton.1 hy]
      · rw [List.map_append]
        exact Hxs.out.append ⟨oa, oc, rfl, hrdo⟩
  case done =>
    clear hS
    rintro D J B' w' hS ⟨hle1, hall, ad, c, xs, rfl, hxs⟩
    have hok : (splitG s).2 = true := by
      cases hb : (splitG s).2 with
      | true => rfl
      | false =>
        have := hall (badOp, false) (by unfold allL; rw [hb]; simp)
        cases this
    have hmap : (allL s).map (·.1) = (splitG s).1 := by
      unfold allL; rw [hok]; simp [List.map_map, Function.comp_def]
    have hlen : (allL s).length = (splitG s).1.length := by rw [← hmap, List.length_map]
    rw [hmap] at hxs
    rw [hlen] at hS
    have Hok := Lib.hid hok
    have Hxs := Lib.hid hxs
    clear hok hmap hlen hall hxs hdl
    gi_wp2_with (first | ((with_reducible refine gN_load ?_); first | (refine sN_load hS rfl _ _ rfl _ _ rfl 1 _ _ rfl _ rfl ?_) | (refine sN_load hS rfl _ _ rfl _ _ rfl 2 _ _ rfl _ rfl ?_)))
    have hK : w'.heap[D]? = some (.deferred (some [])) := hS.get (i := 0) rfl
    have hS2 := ((hS.putObj (i := 0) rfl (.deferred none)).drop)
    obtain ⟨K, hS3, hleK, hrd⟩ := Nx.freezeRow0 (hS2.drop.drop)
    refine ⟨by simp, .inl ⟨_, _, rfl, run_takeDeferred hK, ⟨_, results_tmp2 rfl _ _ _, ?_⟩⟩⟩
    show SplitPost _ _ _ _ _
    unfold SplitPost splitB
    rw [if_pos Hok.out]
    exact ⟨K, _, rfl, hS3, xs, hrd, Hxs.out.mono hleK⟩
  case stop =>
    clear hS
    rintro D c pre J B' w' hS hpre ⟨rfl, hle1, ⟨y, hy, hyf⟩, v, B2, rfl⟩
    have hno : (splitG s).2 = false := by
      cases hb : (splitG s).2 with
      | false => rfl
      | true =>
        exfalso
        have hm := hpre.subset hy
        unfold allL at hm
        rw [hb] at hm
        simp only [if_true, List.append_nil] at hm
        obtain ⟨o, _, rfl⟩ := List.mem_map.1 hm
        cases hyf
    have Hno := Lib.hid hno
    clear hno hyf hy hdl hpre
    gi_wp2_with (first | ((with_reducible refine gN_load ?_); (refine sN_load hS rfl _ _ rfl _ _ rfl 1 _ _ rfl _ rfl ?_)))
    replace hS := hS.drew
    refine wpIn_mono (Q := noPanic _) ?_ noPanic_imp
    refine rgN_start (fun w => w.cell? ⟨eb, 0, none⟩ = some (.int .i64 100)) [] (by kernel_rfl) ?_
    -- P1 L0 P2
    (refine rgN_pure (fun _ => trivial) (v := ?v1u1) 1 rfl (by kernel_rfl) (fun _ _ _ h => h) rfl ?hy1u1 ?rest1u1; (case hy1u1 => (intro w; go_simp; try with_reducible rfl)); (try simp only [Act.put, List.setIfInBounds_toArray, List.set_cons_zero, List.set_cons_succ]))
    ((first | (refine rgN_load (fun _ => trivial) 0 rfl (by kernel_rfl) rfl (by exact hS.blkCell 1 rfl 0 rfl) _ _ rfl _ _ rfl _ (fun w hS => hS) (fun _ _ _ h => h) ?_)); (try simp only [Act.put, List.setIfInBounds_toArray, List.set_cons_zero, List.set_cons_succ]))
    (refine rgN_pure (fun _ => trivial) (v := ?v2u1) 2 rfl (by kernel_rfl) (fun _ _ _ h => h) rfl ?hy2u1 ?rest2u1; (case hy2u1 => (intro w; go_simp; try with_reducible rfl)); (try simp only [Act.put, List.setIfInBounds_toArray, List.set_cons_zero, List.set_cons_succ]))
    refine rgN_done (by kernel_rfl) ?_
    refine noPanic_normal ?_
    gi_wp2_with fail
    have hK : w'.drew.heap[D]? = some (.deferred (some [])) := hS.get (i := 0) rfl
    have hS2 := ((hS.putObj (i := 0) rfl (.deferred none)).drop)
    refine ⟨by simp, .inl ⟨_, _, rfl, run_takeDeferred hK, ⟨_, results_tmp2 rfl _ _ _, ?_⟩⟩⟩
    show SplitPost _ _ _ _ _
    unfold SplitPost splitB
    rw [if_neg (by rw [Hno.out]; simp)]
    exact ⟨rfl, J, hS2.toNil⟩
end Go.Proofs.YtmlgieclkedomaaGreat

namespace Go.Proofs.YtmlgieclkedomaaGreat
open Go Go.RowKit

/-- what a function of bytes answers: 32 bytes -/
def HashSpec (f : Nat) (H : List UInt8 → List UInt8) : Prop := ∀ {I : Imm} {w : World} (_ : I.Holds w) {v : Value} {l : List UInt8} (_ : RdB I v l) (_ : l.length ≤ 400000),
    Calls Tryz.prog f #[v] w fun e w' => ∃ J, e = .returned (hashV (H l)) ∧ (H l).length = 32 ∧ Nx [] I w J [] w'

/-- twice -/
theorem Twice31 {H : List UInt8 → List UInt8} (hO : HashSpec 57 H) {I : Imm} {w : World} (hI : I.Holds w) {v : Value} {l : List UInt8} (h : RdB I v l) (hl : l.length ≤ 400000) :
    Calls Tryz.prog 65 #[v] w fun e w' => ∃ J, e = .returned (hashV (H (H l))) ∧ (H (H l)).length = 32 ∧ Nx [] I w J [] w' := by
  have hS := Nx.nil hI
  go_enter Tryz.func65, Tryz.ntmps65
  go_wp2_with (first | (refine sL_alloc hS rfl 37 rfl ?_; clear hS; intro b2 w' hb2 hS) | (go_at_call 57; refine (hO hS.hI h hl).mono ?_; rintro e w' ⟨J, rfl, hlen, hn⟩; replace hS := hS.pure0 hn; clear hn; refine Stop.of ?_))
  refine Stop.to ?_
  go_wp2_with (first | (refine sL_alloc hS rfl 37 rfl ?_; clear hS; intro b3 w' hb3 hS) | (((with_reducible refine gL_store ?_); (refine sL_storeB hS rfl _ _ _ rfl _ rfl 0 _ _ rfl _ (by go_simp; first | exact rfl | exact ⟨rfl, rfl⟩) (by simp [hlen]) (by rfl) (bvs_one _) ?_; clear hS; intro w' hS; simp only [List.set_cons_zero] at hS)); obtain ⟨K, hS1, hle, hrd⟩ := hS.freezeB (by assumption) 32 hlen (by decide); clear hS; have hS := hS1; clear hS1) | (go_at_call 57; refine (hO hS.hI hrd (by omega)).mono ?_; rintro e w' ⟨J2, rfl, hlen2, hn⟩; replace hS := hS.pure0 hn; clear hn; refine Stop.of ?_))
  refine Stop.to ?_
  go_wp2_with (first | ((with_reducible refine gL_store ?_); (refine sL_storeB hS rfl _ _ _ rfl _ rfl 0 _ _ rfl _ (by go_simp; first | exact rfl | exact ⟨rfl, rfl⟩) (by simp [hlen2]) (by rfl) (bvs_one _) ?_; clear hS; intro w' hS; simp only [List.set_cons_zero] at hS)))
  exact bodyPost_ret (res_c rfl hS rfl 0 rfl (by simp [hlen2])) rfl ⟨_, rfl, hlen2, hS.drop⟩

end Go.Proofs.YtmlgieclkedomaaGreat

namespace Go.Proofs.YtmlgieclkedomaaGreat
open Go Go.RowKit

set_option maxRecDepth 10000 in
set_option maxHeartbeats 1000000 in
theorem bound_spec {H : List UInt8 → List UInt8} (hO : HashSpec 57 H) {I : Imm} {w : World} (hI : I.Holds w) {sec dig : List UInt8} (h1 : sec.length = 32) (h2 : dig.length = 32) :
    Calls Tryz.prog 58 #[hashV sec, hashV dig] w fun e w' => ∃ J, e = .returned (hashV (H (sec ++ dig))) ∧ (H (sec ++ dig)).length = 32 ∧ Nx [] I w J [] w' := by
  have hS := Nx.nil hI
  go_enter Tryz.func58, Tryz.ntmps58
  go_wp2_with (first | (refine sL_box hS rfl _ _ rfl (bvs sec) rfl ?_; clear hS; intro bs w' hb hS; obtain ⟨J1, hS1, hle1, hat1⟩ := hS.freezeBlk hb; clear hS; have hS := hS1; clear hS1) | (refine sL_box hS rfl _ _ rfl (bvs dig) rfl ?_; clear hS; intro bd w' hb hS; obtain ⟨J2, hS1, hle2, hat2⟩ := hS.freezeBlk hb; clear hS; have hS := hS1; clear hS1; replace hat1 := hat1.mono hle2) | (refine sL_alloc hS rfl 37 rfl ?_; clear hS; intro b4 w' hb4 hS))
  replace hS := hS.drew
  refine rg_start (fun _ => True) [] (by kernel_rfl) ?_
  -- P0 P1 S2 S3 S4
  (refine rg_pure (v := ?v0u1) 0 rfl (by kernel_rfl) (fun _ _ _ h => h) rfl ?hy0u1 ?rest0u1; (case hy0u1 => (intro w; go_simp; try with_reducible rfl)); (try simp only [Act.put, List.setIfInBounds_toArray, List.set_cons_zero, List.set_cons_succ]))
  (refine rg_pure (v := ?v1u1) 1 rfl (by kernel_rfl) (fun _ _ _ h => h) rfl ?hy1u1 ?rest1u1; (case hy1u1 => (intro w; go_simp; try with_reducible rfl)); (try simp only [Act.put, List.setIfInBounds_toArray, List.set_cons_zero, List.set_cons_succ]))
  (refine rg_step 2 rfl (by kernel_rfl) (fun K' hK => ?_); go_wp2_with (first | (refine sL_appendF hS rfl _ _ _ rfl _ _ _ (bvs sec) rfl (by simp [h1]) (fun i u hu => hat1.cell hS.hI i hu) _ _ _ _ (bvs dig) rfl (by simp [h2]) (fun i u hu => hat2.cell hS.hI i hu) (by decide) (by decide) ?_; clear hS; intro bn c' w' hbn hS; obtain ⟨J3, hS3, hle3, hrd3⟩ := hS.freezeRow0; clear hS; have hS := hS3; clear hS3) | (go_at_call 57; refine (hO hS.hI (hrd3.asB (sec ++ dig) (by simp) 64 rfl (by simp [h1, h2])) (by simp [h1, h2])).mono ?_; rintro e w' ⟨J4, rfl, hlen, hn⟩; replace hS := hS.pure0 hn; clear hn) | ((with_reducible refine gL_store ?_); (refine sL_storeB hS rfl _ _ _ rfl _ rfl 0 _ _ rfl _ (by go_simp; first | exact rfl | exact ⟨rfl, rfl⟩) (by simp [hlen]) (by rfl) (bvs_one _) ?_; clear hS; intro w' hS; simp only [List.set_cons_zero] at hS))); (try with_reducible refine rg_back ?_); refine hK.out _ _ (fun h => absurd h (by decide)) ?_; clear hK; clear K'; (try simp only [Act.put, List.setIfInBounds_toArray, List.set_cons_zero, List.set_cons_succ]))
  (refine rg_step 3 rfl (by kernel_rfl) (fun K' hK => ?_); go_wp2_with (first | (refine sL_appendF hS rfl _ _ _ rfl _ _ _ (bvs sec) rfl (by simp [h1]) (fun i u hu => hat1.cell hS.hI i hu) _ _ _ _ (bvs dig) rfl (by simp [h2]) (fun i u hu => hat2.cell hS.hI i hu) (by decide) (by decide) ?_; clear hS; intro bn c' w' hbn hS; obtain ⟨J3, hS3, hle3, hrd3⟩ := hS.freezeRow0; clear hS; have hS := hS3; clear hS3) | (go_at_call 57; refine (hO hS.hI (hrd3.asB (sec ++ dig) (by simp) 64 rfl (by simp [h1, h2])) (by simp [h1, h2])).mono ?_; rintro e w' ⟨J4, rfl, hlen, hn⟩; replace hS := hS.pure0 hn; clear hn) | ((with_reducible refine gL_store ?_); (refine sL_storeB hS rfl _ _ _ rfl _ rfl 0 _ _ rfl _ (by go_simp; first | exact rfl | exact ⟨rfl, rfl⟩) (by simp [hlen]) (by rfl) (bvs_one _) ?_; clear hS; intro w' hS; simp only [List.set_cons_zero] at hS))); (try with_reducible refine rg_back ?_); refine hK.out _ _ (fun h => absurd h (by decide)) ?_; clear hK; clear K'; (try simp only [Act.put, List.setIfInBounds_toArray, List.set_cons_zero, List.set_cons_succ]))
  (refine rg_step 4 rfl (by kernel_rfl) (fun K' hK => ?_); go_wp2_with (first | (refine sL_appendF hS rfl _ _ _ rfl _ _ _ (bvs sec) rfl (by simp [h1]) (fun i u hu => hat1.cell hS.hI i hu) _ _ _ _ (bvs dig) rfl (by simp [h2]) (fun i u hu => hat2.cell hS.hI i hu) (by decide) (by decide) ?_; clear hS; intro bn c' w' hbn hS; obtain ⟨J3, hS3, hle3, hrd3⟩ := hS.freezeRow0; clear hS; have hS := hS3; clear hS3) | (go_at_call 57; refine (hO hS.hI (hrd3.asB (sec ++ dig) (by simp) 64 rfl (by simp [h1, h2])) (by simp [h1, h2])).mono ?_; rintro e w' ⟨J4, rfl, hlen, hn⟩; replace hS := hS.pure0 hn; clear hn) | ((with_reducible refine gL_store ?_); (refine sL_storeB hS rfl _ _ _ rfl _ rfl 0 _ _ rfl _ (by go_simp; first | exact rfl | exact ⟨rfl, rfl⟩) (by simp [hlen]) (by rfl) (bvs_one _) ?_; clear hS; intro w' hS; simp only [List.set_cons_zero] at hS))); (try with_reducible refine rg_back ?_); refine hK.out _ _ (fun h => absurd h (by decide)) ?_; clear hK; clear K'; (try simp only [Act.put, List.setIfInBounds_toArray, List.set_cons_zero, List.set_cons_succ]))
  refine rg_done (by kernel_rfl) ?_
  go_wp2
  exact bodyPost_ret (res_c rfl hS rfl 0 rfl (by simp [hlen])) rfl ⟨J4, rfl, hlen, hS.drop⟩
end Go.Proofs.YtmlgieclkedomaaGreat

namespace Go.Proofs.YtmlgieclkedomaaGreat
open Go Go.RowKit

set_option maxRecDepth 10000 in
theorem Public_spec {H : List UInt8 → List UInt8} (hO : HashSpec 57 H) {I : Imm} {w : World} (hI : I.Holds w) {sec : List UInt8} (h1 : sec.length = 32) :
    Calls Tryz.prog 27 #[hashV sec] w fun e w' => ∃ J, e = .returned (hashV (H sec)) ∧ (H sec).length = 32 ∧ Nx [] I w J [] w' := by
  have hS := Nx.nil hI
  have hl1 : (bvs sec).length = 32 := by simp [h1]
  go_enter Tryz.func27, Tryz.ntmps27
  go_wp2_with (first | (refine sL_box hS rfl _ _ rfl (bvs sec) rfl ?_; clear hS; intro bs w' hb hS; obtain ⟨J1, hS1, hle1, hrd1⟩ := hS.freezeB hb 32 h1 (by decide); clear hS; have hS := hS1; clear hS1) | (refine sL_alloc hS rfl 37 rfl ?_; clear hS; intro b2 w' hb2 hS) | (go_at_call 57; refine (hO hS.hI hrd1 (by omega)).mono ?_; rintro e w' ⟨J, rfl, hlen, hn⟩; replace hS := hS.pure0 hn; clear hn; refine Stop.of ?_))
  refine Stop.to ?_
  go_wp2_with (first | ((with_reducible refine gL_store ?_); (refine sL_storeB hS rfl _ _ _ rfl _ rfl 0 _ _ rfl _ (by go_simp; first | exact rfl | exact ⟨rfl, rfl⟩) (by simp [hlen]) (by rfl) (bvs_one _) ?_; clear hS; intro w' hS; simp only [List.set_cons_zero] at hS)))
  exact bodyPost_ret (res_c rfl hS rfl 0 rfl (by simp [hlen])) rfl ⟨_, rfl, hlen, hS.drop⟩

section
variable {P : Program} {l : List Oper} {Q : Exit → Act → World → Prop} {S : World → Prop} {need : List Nat} {a : Act} {w : World} {fuel : Nat} {listed : Array Bool}
theorem rg_eqDS (i : Nat) {oi : Oper} (hi : l[i]? = some oi) (hk : (takeOK l listed i && needOK l need listed i) = true) (hw : Region.wanted oi (yielded l.toArray a.tmps) = true) (hS : S w)
    (T T' : TypeId) (x y : Operand) (ho : oi.op = .binOp .eql T x y T') {n} [h : IntArr P T n .u8] (b m : List UInt8) (hx : a.eval x = .agg (bvs b).toArray) (hy : a.eval y = .agg (bvs m).toArray) (hl : b.length = n) (hm : m.length = n) (r : Bool) (hr : decide (b = m) = r)
    (hQ : ∀ c a w, Q (.panic c) (a.put oi.dst (.bool r)) w → Q (.panic c) a w)
    (h : wpX P l Q S need fuel (listed.setIfInBounds i true) (a.put oi.dst (.bool r)) w) : wpX P l Q S need (fuel + 1) listed a w := by
  subst hr; exact rg_eqBS i hi hk hw hS T T' x y ho b m hx hy hl hm hQ h
end
set_option maxRecDepth 10000 in
set_option maxHeartbeats 2000000 in
theorem Is_spec {H : List UInt8 → List UInt8} (hO : HashSpec 57 H) {I : Imm} {w : World} (hI : I.Holds w) {vk vs : Value} {key sig dig : Bs} (hk : RdB I vk key) (hs : RdB I vs sig) (hd : dig.length = 32) :
    Calls Tryz.prog 29 #[vk, vs, hashV dig] w fun e w' => ∃ J, e = .returned (.bool (isSig H key sig dig)) ∧ Nx [] I w J [] w' := by
  have hS := Nx.nil hI
  have hl1 : (bvs dig).length = 32 := by simp [hd]
  obtain ⟨ka, kc, rfl, -, -, -⟩ := hk.ex
  obtain ⟨sa, sc, rfl, -, -, -⟩ := hs.ex
  by_cases k32 : key.length = 32
  · by_cases s64 : sig.length = 64
    · obtain ⟨-, hkc, kg, kj, rfl, hkat⟩ := RdB.at hk (by omega)
      obtain ⟨-, hsc, sg, sj, rfl, hsat⟩ := RdB.at hs (by omega)
      obtain ⟨s1, hs1⟩ : ∃ s1, s1 = sig.take 32 := ⟨_, rfl⟩
      obtain ⟨s2, hs2⟩ : ∃ s2, s2 = sig.drop 32 := ⟨_, rfl⟩
      have hat1 : I.At sg sj (bvs s1) := by have := hsat.take 32; rw [hs1]; simpa [bvs, List.map_take] using this
      have hat2 : I.At sg (sj + 32) (bvs s2) := by have := hsat.drop 32; rw [hs2]; simpa [bvs, List.map_drop] using this
      have l1 : s1.length = 32 := by rw [hs1, List.length_take]; omega
      have l2 : s2.length = 32 := by rw [hs2, List.length_drop]; omega
      have m1 : (bvs s1).length = 32 := by simp [l1]
      have m2 : (bvs s2).length = 32 := by simp [l2]
      have mk : (bvs key).length = 32 := by simp [k32]
      have hres : isSig H key sig dig = (decide (H s1 = key) && decide (H (s1 ++ dig) = s2)) := by
        unfold isSig
        rw [← hs1, ← hs2]
        by_cases a : H s1 = key <;> by_cases b : H (s1 ++ dig) = s2 <;> simp [k32, s64, a, b]
      rw [hres]
      have ki : ((key.length : Nat) : Int) = 32 := by omega
      have si : ((sig.length : Nat) : Int) = 64 := by omega
      have h32c : 32 ≤ sc := by omega
      have hsc32 : ¬ sc = 32 := by omega
      clear hk hs hs1 hs2 hres hsat
      rw [k32] at hkc ⊢
      rw [s64] at hsc ⊢
      go_enter Tryz.func29, Tryz.ntmps29
      go_wp2_with (first | (refine sL_box hS rfl _ _ rfl (bvs dig) rfl ?_; clear hS; intro b5 w' hb hS; obtain ⟨J1, hS1, hle1, hat5⟩ := hS.freezeBlk hb; clear hS; have hS := hS1; clear hS1; replace hkat := hkat.mono hle1; replace hat1 := hat1.mono hle1; replace hat2 := hat2.mono hle1) | ((with_reducible refine gL_slice ?_); refine sL_slice0 rfl _ _ _ _ rfl _ _ _ rfl ((.inr ⟨_, _, rfl⟩)) (32) (32) (by first | rfl | (show _ = _; omega) | (show _ = _; simp; done) | (show _ = _; simp; omega)) (by first | rfl | (show _ = _; omega) | (show _ = _; simp; done) | (show _ = _; simp; omega)) (by omega) (by omega) (by simp) ?_) | (refine sL_loadIA hS rfl _ _ rfl _ _ rfl (bvs s1) hat1 m1 ?_) | (refine sL_alloc hS rfl 37 rfl ?_; clear hS; intro b7 w' hb7 hS) | (((with_reducible refine gL_store ?_); (refine sL_storeB hS rfl _ _ _ rfl _ rfl 0 _ _ rfl _ (by go_simp; first | exact rfl | exact ⟨rfl, rfl⟩) (by simp [l1]) (by rfl) (bvs_one _) ?_; clear hS; intro w' hS; simp only [List.set_cons_zero] at hS)); obtain ⟨K, hS1, hle5, hat7⟩ := hS.freezeBlk (by assumption); clear hS; have hS := hS1; clear hS1; replace hat1 := hat1.mono hle5; replace hkat := hkat.mono hle5; replace hat2 := hat2.mono hle5; replace hat5 := hat5.mono hle5; refine Stop.of ?_))
      refine Stop.to ?_
      go_wp2_with fail
      have hI1 := hS.hI
      replace hS := hS.drew
      by_cases a1 : H s1 = key
      · have hd1 := Lib.hid (decide_eq_true a1)
        clear a1
        by_cases a2 : H (s1 ++ dig) = s2
        · have hd2 := Lib.hid (decide_eq_true a2)
          clear a2
          refine rg_start (fun w => (∀ i u, (bvs s1)[i]? = some u → w.cell? ⟨b7, 0 + i, none⟩ = some u) ∧ (∀ i u, (bvs key)[i]? = some u → w.cell? ⟨kg, kj + i, none⟩ = some u) ∧ (∀ i u, (bvs dig)[i]? = some u → w.cell? ⟨b5, 0 + i, none⟩ = some u) ∧ (∀ i u, (bvs s2)[i]? = some u → w.cell? ⟨sg, sj + 32 + i, none⟩ = some u)) [1, 4, 5, 6, 7, 8, 9, 10, 11, 12, 13, 14, 15] (by kernel_rfl) ?_
          -- P2 P3 L0 L4 S1 P5 P6 P10 P11 P12 L7 L8 L13 S9 P14 P15 P16
          (refine rg_pure (v := ?v2u1) 2 rfl (by kernel_rfl) (fun _ _ _ h => h) rfl ?hy2u1 ?rest2u1; (case hy2u1 => (intro w; go_simp; try with_reducible rfl)); (try simp only [Act.put, List.setIfInBounds_toArray, List.set_cons_zero, List.set_cons_succ]))
          (refine rg_pure (v := ?v3u1) 3 rfl (by kernel_rfl) (fun _ _ _ h => h) rfl ?hy3u1 ?rest3u1; (case hy3u1 => (intro w; go_simp; try with_reducible rfl)); (try simp only [Act.put, List.setIfInBounds_toArray, List.set_cons_zero, List.set_cons_succ]))
          ((first | (refine rg_loadA 0 rfl (by kernel_rfl) rfl (by exact ⟨hat7.cellA hS.hI, hkat.cellA hS.hI, hat5.cellA hS.hI, hat2.cellA hS.hI⟩) _ _ rfl _ _ rfl _ m1 (fun w hS => hS.1) (fun _ _ _ h => h) ?_) | (refine rg_loadA 0 rfl (by kernel_rfl) rfl (by exact ⟨hat7.cellA hS.hI, hkat.cellA hS.hI, hat5.cellA hS.hI, hat2.cellA hS.hI⟩) _ _ rfl _ _ rfl _ mk (fun w hS => hS.2.1) (fun _ _ _ h => h) ?_) | (refine rg_loadA 0 rfl (by kernel_rfl) rfl (by exact ⟨hat7.cellA hS.hI, hkat.cellA hS.hI, hat5.cellA hS.hI, hat2.cellA hS.hI⟩) _ _ rfl _ _ rfl _ hl1 (fun w hS => hS.2.2.1) (fun _ _ _ h => h) ?_) | (refine rg_loadA 0 rfl (by kernel_rfl) rfl (by exact ⟨hat7.cellA hS.hI, hkat.cellA hS.hI, hat5.cellA hS.hI, hat2.cellA hS.hI⟩) _ _ rfl _ _ rfl _ m2 (fun w hS => hS.2.2.2) (fun _ _ _ h => h) ?_)); (try simp only [Act.put, List.setIfInBounds_toArray, List.set_cons_zero, List.set_cons_succ]))
          ((first | (refine rg_loadA 4 rfl (by kernel_rfl) rfl (by exact ⟨hat7.cellA hS.hI, hkat.cellA hS.hI, hat5.cellA hS.hI, hat2.cellA hS.hI⟩) _ _ rfl _ _ rfl _ m1 (fun w hS => hS.1) (fun _ _ _ h => h) ?_) | (refine rg_loadA 4 rfl (by kernel_rfl) rfl (by exact ⟨hat7.cellA hS.hI, hkat.cellA hS.hI, hat5.cellA hS.hI, hat2.cellA hS.hI⟩) _ _ rfl _ _ rfl _ mk (fun w hS => hS.2.1) (fun _ _ _ h => h) ?_) | (refine rg_loadA 4 rfl (by kernel_rfl) rfl (by exact ⟨hat7.cellA hS.hI, hkat.cellA hS.hI, hat5.cellA hS.hI, hat2.cellA hS.hI⟩) _ _ rfl _ _ rfl _ hl1 (fun w hS => hS.2.2.1) (fun _ _ _ h => h) ?_) | (refine rg_loadA 4 rfl (by kernel_rfl) rfl (by exact ⟨hat7.cellA hS.hI, hkat.cellA hS.hI, hat5.cellA hS.hI, hat2.cellA hS.hI⟩) _ _ rfl _ _ rfl _ m2 (fun w hS => hS.2.2.2) (fun _ _ _ h => h) ?_)); (try simp only [Act.put, List.setIfInBounds_toArray, List.set_cons_zero, List.set_cons_succ]))
          (refine rg_step 1 rfl (by kernel_rfl) (fun K' hK => ?_); go_wp2_with (first | (go_at_call 27; refine (Public_spec hO hS.hI l1).mono ?_; rintro e w' ⟨J7, rfl, hlH, hn⟩; have hleX := hn.le hS.hI; replace hS := hS.pure0 hn; clear hn; replace hat1 := hat1.mono hleX; replace hkat := hkat.mono hleX; replace hat2 := hat2.mono hleX; replace hat5 := hat5.mono hleX; replace hat7 := hat7.mono hleX) | (go_at_call 58; refine (bound_spec hO hS.hI l1 hd).mono ?_; rintro e w' ⟨J8, rfl, hlB, hn⟩; have hleX := hn.le hS.hI; replace hS := hS.pure0 hn; clear hn; replace hat1 := hat1.mono hleX; replace hkat := hkat.mono hleX; replace hat2 := hat2.mono hleX; replace hat5 := hat5.mono hleX; replace hat7 := hat7.mono hleX)); (try with_reducible refine rg_back ?_); refine hK.out _ _ (fun _ => by exact ⟨hat7.cellA hS.hI, hkat.cellA hS.hI, hat5.cellA hS.hI, hat2.cellA hS.hI⟩) ?_; clear hK; clear K'; (try simp only [Act.put, List.setIfInBounds_toArray, List.set_cons_zero, List.set_cons_succ]))
          first | (refine rg_eqDS 5 rfl (by kernel_rfl) rfl (by exact ⟨hat7.cellA hS.hI, hkat.cellA hS.hI, hat5.cellA hS.hI, hat2.cellA hS.hI⟩) _ _ _ _ rfl (H s1) key rfl rfl hlH k32 _ hd1.out (fun _ _ _ h => h) ?_; (try simp only [Act.put, List.setIfInBounds_toArray, List.set_cons_zero, List.set_cons_succ])) | (refine rg_eqDS 5 rfl (by kernel_rfl) rfl (by exact ⟨hat7.cellA hS.hI, hkat.cellA hS.hI, hat5.cellA hS.hI, hat2.cellA hS.hI⟩) _ _ _ _ rfl (H (s1 ++ dig)) s2 rfl rfl hlB l2 _ hd2.out (fun _ _ _ h => h) ?_; (try simp only [Act.put, List.setIfInBounds_toArray, List.set_cons_zero, List.set_cons_succ])) | (refine rg_pureS (v := ?v5u1) 5 rfl (by kernel_rfl) (fun _ _ _ h => h) rfl (by exact ⟨hat7.cellA hS.hI, hkat.cellA hS.hI, hat5.cellA hS.hI, hat2.cellA hS.hI⟩) ?hy5u1 ?rest5u1; (case hy5u1 => (intro w; go_simp; try with_reducible rfl)); (try simp only [Act.put, List.setIfInBounds_toArray, List.set_cons_zero, List.set_cons_succ]))
          (refine rg_pureS (v := ?v6u1) 6 rfl (by kernel_rfl) (fun _ _ _ h => h) rfl (by exact ⟨hat7.cellA hS.hI, hkat.cellA hS.hI, hat5.cellA hS.hI, hat2.cellA hS.hI⟩) ?hy6u1 ?rest6u1; (case hy6u1 => (intro w; go_simp; try with_reducible rfl)); (try simp only [Act.put, List.setIfInBounds_toArray, List.set_cons_zero, List.set_cons_succ]))
          first | (refine rg_pureS (v := ?v10u1) 10 rfl (by kernel_rfl) (fun _ _ _ h => h) rfl (by exact ⟨hat7.cellA hS.hI, hkat.cellA hS.hI, hat5.cellA hS.hI, hat2.cellA hS.hI⟩) ?hy10u1 ?rest10u1; (case hy10u1 => (intro w; go_simp; try with_reducible rfl)); (try simp only [Act.put, List.setIfInBounds_toArray, List.set_cons_zero, List.set_cons_succ])) | (refine rg_skipS 10 rfl (by kernel_rfl) (fun _ _ _ h => h) rfl (by exact ⟨hat7.cellA hS.hI, hkat.cellA hS.hI, hat5.cellA hS.hI, hat2.cellA hS.hI⟩) ?_; (try simp only [Act.put, List.setIfInBounds_toArray, List.set_cons_zero, List.set_cons_succ]))
          first | (refine rg_pureS (v := ?v11u1) 11 rfl (by kernel_rfl) (fun _ _ _ h => h) rfl (by exact ⟨hat7.cellA hS.hI, hkat.cellA hS.hI, hat5.cellA hS.hI, hat2.cellA hS.hI⟩) ?hy11u1 ?rest11u1; (case hy11u1 => (intro w; go_simp; try with_reducible rfl)); (try simp only [Act.put, List.setIfInBounds_toArray, List.set_cons_zero, List.set_cons_succ])) | (refine rg_skipS 11 rfl (by kernel_rfl) (fun _ _ _ h => h) rfl (by exact ⟨hat7.cellA hS.hI, hkat.cellA hS.hI, hat5.cellA hS.hI, hat2.cellA hS.hI⟩) ?_; (try simp only [Act.put, List.setIfInBounds_toArray, List.set_cons_zero, List.set_cons_succ]))
          first | (refine rg_pureS (v := ?v12u1) 12 rfl (by kernel_rfl) (fun _ _ _ h => h) rfl (by exact ⟨hat7.cellA hS.hI, hkat.cellA hS.hI, hat5.cellA hS.hI, hat2.cellA hS.hI⟩) ?hy12u1 ?rest12u1; (case hy12u1 => (intro w; go_simp; try with_reducible rfl)); (try simp only [Act.put, List.setIfInBounds_toArray, List.set_cons_zero, List.set_cons_succ])) | (refine rg_skipS 12 rfl (by kernel_rfl) (fun _ _ _ h => h) rfl (by exact ⟨hat7.cellA hS.hI, hkat.cellA hS.hI, hat5.cellA hS.hI, hat2.cellA hS.hI⟩) ?_; (try simp only [Act.put, List.setIfInBounds_toArray, List.set_cons_zero, List.set_cons_succ]))
          first | ((first | (refine rg_loadA 7 rfl (by kernel_rfl) rfl (by exact ⟨hat7.cellA hS.hI, hkat.cellA hS.hI, hat5.cellA hS.hI, hat2.cellA hS.hI⟩) _ _ rfl _ _ rfl _ m1 (fun w hS => hS.1) (fun _ _ _ h => h) ?_) | (refine rg_loadA 7 rfl (by kernel_rfl) rfl (by exact ⟨hat7.cellA hS.hI, hkat.cellA hS.hI, hat5.cellA hS.hI, hat2.cellA hS.hI⟩) _ _ rfl _ _ rfl _ mk (fun w hS => hS.2.1) (fun _ _ _ h => h) ?_) | (refine rg_loadA 7 rfl (by kernel_rfl) rfl (by exact ⟨hat7.cellA hS.hI, hkat.cellA hS.hI, hat5.cellA hS.hI, hat2.cellA hS.hI⟩) _ _ rfl _ _ rfl _ hl1 (fun w hS => hS.2.2.1) (fun _ _ _ h => h) ?_) | (refine rg_loadA 7 rfl (by kernel_rfl) rfl (by exact ⟨hat7.cellA hS.hI, hkat.cellA hS.hI, hat5.cellA hS.hI, hat2.cellA hS.hI⟩) _ _ rfl _ _ rfl _ m2 (fun w hS => hS.2.2.2) (fun _ _ _ h => h) ?_)); (try simp only [Act.put, List.setIfInBounds_toArray, List.set_cons_zero, List.set_cons_succ])) | (refine rg_skipS 7 rfl (by kernel_rfl) (fun _ _ _ h => h) rfl (by exact ⟨hat7.cellA hS.hI, hkat.cellA hS.hI, hat5.cellA hS.hI, hat2.cellA hS.hI⟩) ?_; (try simp only [Act.put, List.setIfInBounds_toArray, List.set_cons_zero, List.set_cons_succ]))
          first | ((first | (refine rg_loadA 8 rfl (by kernel_rfl) rfl (by exact ⟨hat7.cellA hS.hI, hkat.cellA hS.hI, hat5.cellA hS.hI, hat2.cellA hS.hI⟩) _ _ rfl _ _ rfl _ m1 (fun w hS => hS.1) (fun _ _ _ h => h) ?_) | (refine rg_loadA 8 rfl (by kernel_rfl) rfl (by exact ⟨hat7.cellA hS.hI, hkat.cellA hS.hI, hat5.cellA hS.hI, hat2.cellA hS.hI⟩) _ _ rfl _ _ rfl _ mk (fun w hS => hS.2.1) (fun _ _ _ h => h) ?_) | (refine rg_loadA 8 rfl (by kernel_rfl) rfl (by exact ⟨hat7.cellA hS.hI, hkat.cellA hS.hI, hat5.cellA hS.hI, hat2.cellA hS.hI⟩) _ _ rfl _ _ rfl _ hl1 (fun w hS => hS.2.2.1) (fun _ _ _ h => h) ?_) | (refine rg_loadA 8 rfl (by kernel_rfl) rfl (by exact ⟨hat7.cellA hS.hI, hkat.cellA hS.hI, hat5.cellA hS.hI, hat2.cellA hS.hI⟩) _ _ rfl _ _ rfl _ m2 (fun w hS => hS.2.2.2) (fun _ _ _ h => h) ?_)); (try simp only [Act.put, List.setIfInBounds_toArray, List.set_cons_zero, List.set_cons_succ])) | (refine rg_skipS 8 rfl (by kernel_rfl) (fun _ _ _ h => h) rfl (by exact ⟨hat7.cellA hS.hI, hkat.cellA hS.hI, hat5.cellA hS.hI, hat2.cellA hS.hI⟩) ?_; (try simp only [Act.put, List.setIfInBounds_toArray, List.set_cons_zero, List.set_cons_succ]))
          first | ((first | (refine rg_loadA 13 rfl (by kernel_rfl) rfl (by exact ⟨hat7.cellA hS.hI, hkat.cellA hS.hI, hat5.cellA hS.hI, hat2.cellA hS.hI⟩) _ _ rfl _ _ rfl _ m1 (fun w hS => hS.1) (fun _ _ _ h => h) ?_) | (refine rg_loadA 13 rfl (by kernel_rfl) rfl (by exact ⟨hat7.cellA hS.hI, hkat.cellA hS.hI, hat5.cellA hS.hI, hat2.cellA hS.hI⟩) _ _ rfl _ _ rfl _ mk (fun w hS => hS.2.1) (fun _ _ _ h => h) ?_) | (refine rg_loadA 13 rfl (by kernel_rfl) rfl (by exact ⟨hat7.cellA hS.hI, hkat.cellA hS.hI, hat5.cellA hS.hI, hat2.cellA hS.hI⟩) _ _ rfl _ _ rfl _ hl1 (fun w hS => hS.2.2.1) (fun _ _ _ h => h) ?_) | (refine rg_loadA 13 rfl (by kernel_rfl) rfl (by exact ⟨hat7.cellA hS.hI, hkat.cellA hS.hI, hat5.cellA hS.hI, hat2.cellA hS.hI⟩) _ _ rfl _ _ rfl _ m2 (fun w hS => hS.2.2.2) (fun _ _ _ h => h) ?_)); (try simp only [Act.put, List.setIfInBounds_toArray, List.set_cons_zero, List.set_cons_succ])) | (refine rg_skipS 13 rfl (by kernel_rfl) (fun _ _ _ h => h) rfl (by exact ⟨hat7.cellA hS.hI, hkat.cellA hS.hI, hat5.cellA hS.hI, hat2.cellA hS.hI⟩) ?_; (try simp only [Act.put, List.setIfInBounds_toArray, List.set_cons_zero, List.set_cons_succ]))
          first | (refine rg_step 9 rfl (by kernel_rfl) (fun K' hK => ?_); go_wp2_with (first | (go_at_call 27; refine (Public_spec hO hS.hI l1).mono ?_; rintro e w' ⟨J7, rfl, hlH, hn⟩; have hleX := hn.le hS.hI; replace hS := hS.pure0 hn; clear hn; replace hat1 := hat1.mono hleX; replace hkat := hkat.mono hleX; replace hat2 := hat2.mono hleX; replace hat5 := hat5.mono hleX; replace hat7 := hat7.mono hleX) | (go_at_call 58; refine (bound_spec hO hS.hI l1 hd).mono ?_; rintro e w' ⟨J8, rfl, hlB, hn⟩; have hleX := hn.le hS.hI; replace hS := hS.pure0 hn; clear hn; replace hat1 := hat1.mono hleX; replace hkat := hkat.mono hleX; replace hat2 := hat2.mono hleX; replace hat5 := hat5.mono hleX; replace hat7 := hat7.mono hleX)); (try with_reducible refine rg_back ?_); refine hK.out _ _ (fun _ => by exact ⟨hat7.cellA hS.hI, hkat.cellA hS.hI, hat5.cellA hS.hI, hat2.cellA hS.hI⟩) ?_; clear hK; clear K'; (try simp only [Act.put, List.setIfInBounds_toArray, List.set_cons_zero, List.set_cons_succ])) | (refine rg_step 9 rfl (by kernel_rfl) (fun K' hK => ?_); go_wp2; (try with_reducible refine rg_back ?_); refine hK.out _ _ (fun _ => by exact ⟨hat7.cellA hS.hI, hkat.cellA hS.hI, hat5.cellA hS.hI, hat2.cellA hS.hI⟩) ?_; clear hK; clear K'; (try simp only [Act.put, List.setIfInBounds_toArray, List.set_cons_zero, List.set_cons_succ]))
          first | (refine rg_eqDS 14 rfl (by kernel_rfl) rfl (by exact ⟨hat7.cellA hS.hI, hkat.cellA hS.hI, hat5.cellA hS.hI, hat2.cellA hS.hI⟩) _ _ _ _ rfl (H s1) key rfl rfl hlH k32 _ hd1.out (fun _ _ _ h => h) ?_; (try simp only [Act.put, List.setIfInBounds_toArray, List.set_cons_zero, List.set_cons_succ])) | (refine rg_eqDS 14 rfl (by kernel_rfl) rfl (by exact ⟨hat7.cellA hS.hI, hkat.cellA hS.hI, hat5.cellA hS.hI, hat2.cellA hS.hI⟩) _ _ _ _ rfl (H (s1 ++ dig)) s2 rfl rfl hlB l2 _ hd2.out (fun _ _ _ h => h) ?_; (try simp only [Act.put, List.setIfInBounds_toArray, List.set_cons_zero, List.set_cons_succ])) | (refine rg_pureS (v := ?v14u1) 14 rfl (by kernel_rfl) (fun _ _ _ h => h) rfl (by exact ⟨hat7.cellA hS.hI, hkat.cellA hS.hI, hat5.cellA hS.hI, hat2.cellA hS.hI⟩) ?hy14u1 ?rest14u1; (case hy14u1 => (intro w; go_simp; try with_reducible rfl)); (try simp only [Act.put, List.setIfInBounds_toArray, List.set_cons_zero, List.set_cons_succ])) | (refine rg_skipS 14 rfl (by kernel_rfl) (fun _ _ _ h => h) rfl (by exact ⟨hat7.cellA hS.hI, hkat.cellA hS.hI, hat5.cellA hS.hI, hat2.cellA hS.hI⟩) ?_; (try simp only [Act.put, List.setIfInBounds_toArray, List.set_cons_zero, List.set_cons_succ]))
          (refine rg_pureS (v := ?v15u1) 15 rfl (by kernel_rfl) (fun _ _ _ h => h) rfl (by exact ⟨hat7.cellA hS.hI, hkat.cellA hS.hI, hat5.cellA hS.hI, hat2.cellA hS.hI⟩) ?hy15u1 ?rest15u1; (case hy15u1 => (intro w; go_simp; try with_reducible rfl)); (try simp only [Act.put, List.setIfInBounds_toArray, List.set_cons_zero, List.set_cons_succ]))
          (refine rg_pure (v := ?v16u1) 16 rfl (by kernel_rfl) (fun _ _ _ h => h) rfl ?hy16u1 ?rest16u1; (case hy16u1 => (intro w; go_simp; try with_reducible rfl)); (try simp only [Act.put, List.setIfInBounds_toArray, List.set_cons_zero, List.set_cons_succ]))
          refine rg_done (by kernel_rfl) ?_
          go_wp2_with fail
          go_ret
          exact ⟨_, by rw [hd1.out, hd2.out]; rfl, hS⟩
        · have hd2 := Lib.hid (decide_eq_false a2)
          clear a2
          refine rg_start (fun w => (∀ i u, (bvs s1)[i]? = some u → w.cell? ⟨b7, 0 + i, none⟩ = some u) ∧ (∀ i u, (bvs key)[i]? = some u → w.cell? ⟨kg, kj + i, none⟩ = some u) ∧ (∀ i u, (bvs dig)[i]? = some u → w.cell? ⟨b5, 0 + i, none⟩ = some u) ∧ (∀ i u, (bvs s2)[i]? = some u → w.cell? ⟨sg, sj + 32 + i, none⟩ = some u)) [1, 4, 5, 6, 7, 8, 9, 10, 11, 12, 13, 14, 15] (by kernel_rfl) ?_
          -- P2 P3 L0 L4 S1 P5 P6 P10 P11 P12 L7 L8 L13 S9 P14 P15 P16
          (refine rg_pure (v := ?v2u2) 2 rfl (by kernel_rfl) (fun _ _ _ h => h) rfl ?hy2u2 ?rest2u2; (case hy2u2 => (intro w; go_simp; try with_reducible rfl)); (try simp only [Act.put, List.setIfInBounds_toArray, List.set_cons_zero, List.set_cons_succ]))
          (refine rg_pure (v := ?v3u2) 3 rfl (by kernel_rfl) (fun _ _ _ h => h) rfl ?hy3u2 ?rest3u2; (case hy3u2 => (intro w; go_simp; try with_reducible rfl)); (try simp only [Act.put, List.setIfInBounds_toArray, List.set_cons_zero, List.set_cons_succ]))
          ((first | (refine rg_loadA 0 rfl (by kernel_rfl) rfl (by exact ⟨hat7.cellA hS.hI, hkat.cellA hS.hI, hat5.cellA hS.hI, hat2.cellA hS.hI⟩) _ _ rfl _ _ rfl _ m1 (fun w hS => hS.1) (fun _ _ _ h => h) ?_) | (refine rg_loadA 0 rfl (by kernel_rfl) rfl (by exact ⟨hat7.cellA hS.hI, hkat.cellA hS.hI, hat5.cellA hS.hI, hat2.cellA hS.hI⟩) _ _ rfl _ _ rfl _ mk (fun w hS => hS.2.1) (fun _ _ _ h => h) ?_) | (refine rg_loadA 0 rfl (by kernel_rfl) rfl (by exact ⟨hat7.cellA hS.hI, hkat.cellA hS.hI, hat5.cellA hS.hI, hat2.cellA hS.hI⟩) _ _ rfl _ _ rfl _ hl1 (fun w hS => hS.2.2.1) (fun _ _ _ h => h) ?_) | (refine rg_loadA 0 rfl (by kernel_rfl) rfl (by exact ⟨hat7.cellA hS.hI, hkat.cellA hS.hI, hat5.cellA hS.hI, hat2.cellA hS.hI⟩) _ _ rfl _ _ rfl _ m2 (fun w hS => hS.2.2.2) (fun _ _ _ h => h) ?_)); (try simp only [Act.put, List.setIfInBounds_toArray, List.set_cons_zero, List.set_cons_succ]))
          ((first | (refine rg_loadA 4 rfl (by kernel_rfl) rfl (by exact ⟨hat7.cellA hS.hI, hkat.cellA hS.hI, hat5.cellA hS.hI, hat2.cellA hS.hI⟩) _ _ rfl _ _ rfl _ m1 (fun w hS => hS.1) (fun _ _ _ h => h) ?_) | (refine rg_loadA 4 rfl (by kernel_rfl) rfl (by exact ⟨hat7.cellA hS.hI, hkat.cellA hS.hI, hat5.cellA hS.hI, hat2.cellA hS.hI⟩) _ _ rfl _ _ rfl _ mk (fun w hS => hS.2.1) (fun _ _ _ h => h) ?_) | (refine rg_loadA 4 rfl (by kernel_rfl) rfl (by exact ⟨hat7.cellA hS.hI, hkat.cellA hS.hI, hat5.cellA hS.hI, hat2.cellA hS.hI⟩) _ _ rfl _ _ rfl _ hl1 (fun w hS => hS.2.2.1) (fun _ _ _ h => h) ?_) | (refine rg_loadA 4 rfl (by kernel_rfl) rfl (by exact ⟨hat7.cellA hS.hI, hkat.cellA hS.hI, hat5.cellA hS.hI, hat2.cellA hS.hI⟩) _ _ rfl _ _ rfl _ m2 (fun w hS => hS.2.2.2) (fun _ _ _ h => h) ?_)); (try simp only [Act.put, List.setIfInBounds_toArray, List.set_cons_zero, List.set_cons_succ]))
          (refine rg_step 1 rfl (by kernel_rfl) (fun K' hK => ?_); go_wp2_with (first | (go_at_call 27; refine (Public_spec hO hS.hI l1).mono ?_; rintro e w' ⟨J7, rfl, hlH, hn⟩; have hleX := hn.le hS.hI; replace hS := hS.pure0 hn; clear hn; replace hat1 := hat1.mono hleX; replace hkat := hkat.mono hleX; replace hat2 := hat2.mono hleX; replace hat5 := hat5.mono hleX; replace hat7 := hat7.mono hleX) | (go_at_call 58; refine (bound_spec hO hS.hI l1 hd).mono ?_; rintro e w' ⟨J8, rfl, hlB, hn⟩; have hleX := hn.le hS.hI; replace hS := hS.pure0 hn; clear hn; replace hat1 := hat1.mono hleX; replace hkat := hkat.mono hleX; replace hat2 := hat2.mono hleX; replace hat5 := hat5.mono hleX; replace hat7 := hat7.mono hleX)); (try with_reducible refine rg_back ?_); refine hK.out _ _ (fun _ => by exact ⟨hat7.cellA hS.hI, hkat.cellA hS.hI, hat5.cellA hS.hI, hat2.cellA hS.hI⟩) ?_; clear hK; clear K'; (try simp only [Act.put, List.setIfInBounds_toArray, List.set_cons_zero, List.set_cons_succ]))
          first | (refine rg_eqDS 5 rfl (by kernel_rfl) rfl (by exact ⟨hat7.cellA hS.hI, hkat.cellA hS.hI, hat5.cellA hS.hI, hat2.cellA hS.hI⟩) _ _ _ _ rfl (H s1) key rfl rfl hlH k32 _ hd1.out (fun _ _ _ h => h) ?_; (try simp only [Act.put, List.setIfInBounds_toArray, List.set_cons_zero, List.set_cons_succ])) | (refine rg_eqDS 5 rfl (by kernel_rfl) rfl (by exact ⟨hat7.cellA hS.hI, hkat.cellA hS.hI, hat5.cellA hS.hI, hat2.cellA hS.hI⟩) _ _ _ _ rfl (H (s1 ++ dig)) s2 rfl rfl hlB l2 _ hd2.out (fun _ _ _ h => h) ?_; (try simp only [Act.put, List.setIfInBounds_toArray, List.set_cons_zero, List.set_cons_succ])) | (refine rg_pureS (v := ?v5u2) 5 rfl (by kernel_rfl) (fun _ _ _ h => h) rfl (by exact ⟨hat7.cellA hS.hI, hkat.cellA hS.hI, hat5.cellA hS.hI, hat2.cellA hS.hI⟩) ?hy5u2 ?rest5u2; (case hy5u2 => (intro w; go_simp; try with_reducible rfl)); (try simp only [Act.put, List.setIfInBounds_toArray, List.set_cons_zero, List.set_cons_succ]))
          (refine rg_pureS (v := ?v6u2) 6 rfl (by kernel_rfl) (fun _ _ _ h => h) rfl (by exact ⟨hat7.cellA hS.hI, hkat.cellA hS.hI, hat5.cellA hS.hI, hat2.cellA hS.hI⟩) ?hy6u2 ?rest6u2; (case hy6u2 => (intro w; go_simp; try with_reducible rfl)); (try simp only [Act.put, List.setIfInBounds_toArray, List.set_cons_zero, List.set_cons_succ]))
          first | (refine rg_pureS (v := ?v10u2) 10 rfl (by kernel_rfl) (fun _ _ _ h => h) rfl (by exact ⟨hat7.cellA hS.hI, hkat.cellA hS.hI, hat5.cellA hS.hI, hat2.cellA hS.hI⟩) ?hy10u2 ?rest10u2; (case hy10u2 => (intro w; go_simp; try with_reducible rfl)); (try simp only [Act.put, List.setIfInBounds_toArray, List.set_cons_zero, List.set_cons_succ])) | (refine rg_skipS 10 rfl (by kernel_rfl) (fun _ _ _ h => h) rfl (by exact ⟨hat7.cellA hS.hI, hkat.cellA hS.hI, hat5.cellA hS.hI, hat2.cellA hS.hI⟩) ?_; (try simp only [Act.put, List.setIfInBounds_toArray, List.set_cons_zero, List.set_cons_succ]))
          first | (refine rg_pureS (v := ?v11u2) 11 rfl (by kernel_rfl) (fun _ _ _ h => h) rfl (by exact ⟨hat7.cellA hS.hI, hkat.cellA hS.hI, hat5.cellA hS.hI, hat2.cellA hS.hI⟩) ?hy11u2 ?rest11u2; (case hy11u2 => (intro w; go_simp; try with_reducible rfl)); (try simp only [Act.put, List.setIfInBounds_toArray, List.set_cons_zero, List.set_cons_succ])) | (refine rg_skipS 11 rfl (by kernel_rfl) (fun _ _ _ h => h) rfl (by exact ⟨hat7.cellA hS.hI, hkat.cellA hS.hI, hat5.cellA hS.hI, hat2.cellA hS.hI⟩) ?_; (try simp only [Act.put, List.setIfInBounds_toArray, List.set_cons_zero, List.set_cons_succ]))
          first | (refine rg_pureS (v := ?v12u2) 12 rfl (by kernel_rfl) (fun _ _ _ h => h) rfl (by exact ⟨hat7.cellA hS.hI, hkat.cellA hS.hI, hat5.cellA hS.hI, hat2.cellA hS.hI⟩) ?hy12u2 ?rest12u2; (case hy12u2 => (intro w; go_simp; try with_reducible rfl)); (try simp only [Act.put, List.setIfInBounds_toArray, List.set_cons_zero, List.set_cons_succ])) | (refine rg_skipS 12 rfl (by kernel_rfl) (fun _ _ _ h => h) rfl (by exact ⟨hat7.cellA hS.hI, hkat.cellA hS.hI, hat5.cellA hS.hI, hat2.cellA hS.hI⟩) ?_; (try simp only [Act.put, List.setIfInBounds_toArray, List.set_cons_zero, List.set_cons_succ]))
          first | ((first | (refine rg_loadA 7 rfl (by kernel_rfl) rfl (by exact ⟨hat7.cellA hS.hI, hkat.cellA hS.hI, hat5.cellA hS.hI, hat2.cellA hS.hI⟩) _ _ rfl _ _ rfl _ m1 (fun w hS => hS.1) (fun _ _ _ h => h) ?_) | (refine rg_loadA 7 rfl (by kernel_rfl) rfl (by exact ⟨hat7.cellA hS.hI, hkat.cellA hS.hI, hat5.cellA hS.hI, hat2.cellA hS.hI⟩) _ _ rfl _ _ rfl _ mk (fun w hS => hS.2.1) (fun _ _ _ h => h) ?_) | (refine rg_loadA 7 rfl (by kernel_rfl) rfl (by exact ⟨hat7.cellA hS.hI, hkat.cellA hS.hI, hat5.cellA hS.hI, hat2.cellA hS.hI⟩) _ _ rfl _ _ rfl _ hl1 (fun w hS => hS.2.2.1) (fun _ _ _ h => h) ?_) | (refine rg_loadA 7 rfl (by kernel_rfl) rfl (by exact ⟨hat7.cellA hS.hI, hkat.cellA hS.hI, hat5.cellA hS.hI, hat2.cellA hS.hI⟩) _ _ rfl _ _ rfl _ m2 (fun w hS => hS.2.2.2) (fun _ _ _ h => h) ?_)); (try simp only [Act.put, List.setIfInBounds_toArray, List.set_cons_zero, List.set_cons_succ])) | (refine rg_skipS 7 rfl (by kernel_rfl) (fun _ _ _ h => h) rfl (by exact ⟨hat7.cellA hS.hI, hkat.cellA hS.hI, hat5.cellA hS.hI, hat2.cellA hS.hI⟩) ?_; (try simp only [Act.put, List.setIfInBounds_toArray, List.set_cons_zero, List.set_cons_succ]))
          first | ((first | (refine rg_loadA 8 rfl (by kernel_rfl) rfl (by exact ⟨hat7.cellA hS.hI, hkat.cellA hS.hI, hat5.cellA hS.hI, hat2.cellA hS.hI⟩) _ _ rfl _ _ rfl _ m1 (fun w hS => hS.1) (fun _ _ _ h => h) ?_) | (refine rg_loadA 8 rfl (by kernel_rfl) rfl (by exact ⟨hat7.cellA hS.hI, hkat.cellA hS.hI, hat5.cellA hS.hI, hat2.cellA hS.hI⟩) _ _ rfl _ _ rfl _ mk (fun w hS => hS.2.1) (fun _ _ _ h => h) ?_) | (refine rg_loadA 8 rfl (by kernel_rfl) rfl (by exact ⟨hat7.cellA hS.hI, hkat.cellA hS.hI, hat5.cellA hS.hI, hat2.cellA hS.hI⟩) _ _ rfl _ _ rfl _ hl1 (fun w hS => hS.2.2.1) (fun _ _ _ h => h) ?_) | (refine rg_loadA 8 rfl (by kernel_rfl) rfl (by exact ⟨hat7.cellA hS.hI, hkat.cellA hS.hI, hat5.cellA hS.hI, hat2.cellA hS.hI⟩) _ _ rfl _ _ rfl _ m2 (fun w hS => hS.2.2.2) (fun _ _ _ h => h) ?_)); (try simp only [Act.put, List.setIfInBounds_toArray, List.set_cons_zero, List.set_cons_succ])) | (refine rg_skipS 8 rfl (by kernel_rfl) (fun _ _ _ h => h) rfl (by exact ⟨hat7.cellA hS.hI, hkat.cellA hS.hI, hat5.cellA hS.hI, hat2.cellA hS.hI⟩) ?_; (try simp only [Act.put, List.setIfInBounds_toArray, List.set_cons_zero, List.set_cons_succ]))
          first | ((first | (refine rg_loadA 13 rfl (by kernel_rfl) rfl (by exact ⟨hat7.cellA hS.hI, hkat.cellA hS.hI, hat5.cellA hS.hI, hat2.cellA hS.hI⟩) _ _ rfl _ _ rfl _ m1 (fun w hS => hS.1) (fun _ _ _ h => h) ?_) | (refine rg_loadA 13 rfl (by kernel_rfl) rfl (by exact ⟨hat7.cellA hS.hI, hkat.cellA hS.hI, hat5.cellA hS.hI, hat2.cellA hS.hI⟩) _ _ rfl _ _ rfl _ mk (fun w hS => hS.2.1) (fun _ _ _ h => h) ?_) | (refine rg_loadA 13 rfl (by kernel_rfl) rfl (by exact ⟨hat7.cellA hS.hI, hkat.cellA hS.hI, hat5.cellA hS.hI, hat2.cellA hS.hI⟩) _ _ rfl _ _ rfl _ hl1 (fun w hS => hS.2.2.1) (fun _ _ _ h => h) ?_) | (refine rg_loadA 13 rfl (by kernel_rfl) rfl (by exact ⟨hat7.cellA hS.hI, hkat.cellA hS.hI, hat5.cellA hS.hI, hat2.cellA hS.hI⟩) _ _ rfl _ _ rfl _ m2 (fun w hS => hS.2.2.2) (fun _ _ _ h => h) ?_)); (try simp only [Act.put, List.setIfInBounds_toArray, List.set_cons_zero, List.set_cons_succ])) | (refine rg_skipS 13 rfl (by kernel_rfl) (fun _ _ _ h => h) rfl (by exact ⟨hat7.cellA hS.hI, hkat.cellA hS.hI, hat5.cellA hS.hI, hat2.cellA hS.hI⟩) ?_; (try simp only [Act.put, List.setIfInBounds_toArray, List.set_cons_zero, List.set_cons_succ]))
          first | (refine rg_step 9 rfl (by kernel_rfl) (fun K' hK => ?_); go_wp2_with (first | (go_at_call 27; refine (Public_spec hO hS.hI l1).mono ?_; rintro e w' ⟨J7, rfl, hlH, hn⟩; have hleX := hn.le hS.hI; replace hS := hS.pure0 hn; clear hn; replace hat1 := hat1.mono hleX; replace hkat := hkat.mono hleX; replace hat2 := hat2.mono hleX; replace hat5 := hat5.mono hleX; replace hat7 := hat7.mono hleX) | (go_at_call 58; refine (bound_spec hO hS.hI l1 hd).mono ?_; rintro e w' ⟨J8, rfl, hlB, hn⟩; have hleX := hn.le hS.hI; replace hS := hS.pure0 hn; clear hn; replace hat1 := hat1.mono hleX; replace hkat := hkat.mono hleX; replace hat2 := hat2.mono hleX; replace hat5 := hat5.mono hleX; replace hat7 := hat7.mono hleX)); (try with_reducible refine rg_back ?_); refine hK.out _ _ (fun _ => by exact ⟨hat7.cellA hS.hI, hkat.cellA hS.hI, hat5.cellA hS.hI, hat2.cellA hS.hI⟩) ?_; clear hK; clear K'; (try simp only [Act.put, List.setIfInBounds_toArray, List.set_cons_zero, List.set_cons_succ])) | (refine rg_step 9 rfl (by kernel_rfl) (fun K' hK => ?_); go_wp2; (try with_reducible refine rg_back ?_); refine hK.out _ _ (fun _ => by exact ⟨hat7.cellA hS.hI, hkat.cellA hS.hI, hat5.cellA hS.hI, hat2.cellA hS.hI⟩) ?_; clear hK; clear K'; (try simp only [Act.put, List.setIfInBounds_toArray, List.set_cons_zero, List.set_cons_succ]))
          first | (refine rg_eqDS 14 rfl (by kernel_rfl) rfl (by exact ⟨hat7.cellA hS.hI, hkat.cellA hS.hI, hat5.cellA hS.hI, hat2.cellA hS.hI⟩) _ _ _ _ rfl (H s1) key rfl rfl hlH k32 _ hd1.out (fun _ _ _ h => h) ?_; (try simp only [Act.put, List.setIfInBounds_toArray, List.set_cons_zero, List.set_cons_succ])) | (refine rg_eqDS 14 rfl (by kernel_rfl) rfl (by exact ⟨hat7.cellA hS.hI, hkat.cellA hS.hI, hat5.cellA hS.hI, hat2.cellA hS.hI⟩) _ _ _ _ rfl (H (s1 ++ dig)) s2 rfl rfl hlB l2 _ hd2.out (fun _ _ _ h => h) ?_; (try simp only [Act.put, List.setIfInBounds_toArray, List.set_cons_zero, List.set_cons_succ])) | (refine rg_pureS (v := ?v14u2) 14 rfl (by kernel_rfl) (fun _ _ _ h => h) rfl (by exact ⟨hat7.cellA hS.hI, hkat.cellA hS.hI, hat5.cellA hS.hI, hat2.cellA hS.hI⟩) ?hy14u2 ?rest14u2; (case hy14u2 => (intro w; go_simp; try with_reducible rfl)); (try simp only [Act.put, List.setIfInBounds_toArray, List.set_cons_zero, List.set_cons_succ])) | (refine rg_skipS 14 rfl (by kernel_rfl) (fun _ _ _ h => h) rfl (by exact ⟨hat7.cellA hS.hI, hkat.cellA hS.hI, hat5.cellA hS.hI, hat2.cellA hS.hI⟩) ?_; (try simp only [Act.put, List.setIfInBounds_toArray, List.set_cons_zero, List.set_cons_succ]))
          (refine rg_pureS (v := ?v15u2) 15 rfl (by kernel_rfl) (fun _ _ _ h => h) rfl (by exact ⟨hat7.cellA hS.hI, hkat.cellA hS.hI, hat5.cellA hS.hI, hat2.cellA hS.hI⟩) ?hy15u2 ?rest15u2; (case hy15u2 => (intro w; go_simp; try with_reducible rfl)); (try simp only [Act.put, List.setIfInBounds_toArray, List.set_cons_zero, List.set_cons_succ]))
          (refine rg_pure (v := ?v16u2) 16 rfl (by kernel_rfl) (fun _ _ _ h => h) rfl ?hy16u2 ?rest16u2; (case hy16u2 => (intro w; go_simp; try with_reducible rfl)); (try simp only [Act.put, List.setIfInBounds_toArray, List.set_cons_zero, List.set_cons_succ]))
          refine rg_done (by kernel_rfl) ?_
          go_wp2_with fail
          go_ret
          exact ⟨_, by rw [hd1.out, hd2.out]; rfl, hS⟩
      · have hd1 := Lib.hid (decide_eq_false a1)
        clear a1
        refine rg_start (fun w => (∀ i u, (bvs s1)[i]? = some u → w.cell? ⟨b7, 0 + i, none⟩ = some u) ∧ (∀ i u, (bvs key)[i]? = some u → w.cell? ⟨kg, kj + i, none⟩ = some u) ∧ (∀ i u, (bvs dig)[i]? = some u → w.cell? ⟨b5, 0 + i, none⟩ = some u) ∧ (∀ i u, (bvs s2)[i]? = some u → w.cell? ⟨sg, sj + 32 + i, none⟩ = some u)) [1, 4, 5, 6, 7, 8, 9, 10, 11, 12, 13, 14, 15] (by kernel_rfl) ?_
        -- P2 P3 L0 L4 S1 P5 P6 P10 P11 P12 L7 L8 L13 S9 P14 P15 P16
        (refine rg_pure (v := ?v2u3) 2 rfl (by kernel_rfl) (fun _ _ _ h => h) rfl ?hy2u3 ?rest2u3; (case hy2u3 => (intro w; go_simp; try with_reducible rfl)); (try simp only [Act.put, List.setIfInBounds_toArray, List.set_cons_zero, List.set_cons_succ]))
        (refine rg_pure (v := ?v3u3) 3 rfl (by kernel_rfl) (fun _ _ _ h => h) rfl ?hy3u3 ?rest3u3; (case hy3u3 => (intro w; go_simp; try with_reducible rfl)); (try simp only [Act.put, List.setIfInBounds_toArray, List.set_cons_zero, List.set_cons_succ]))
        ((first | (refine rg_loadA 0 rfl (by kernel_rfl) rfl (by exact ⟨hat7.cellA hS.hI, hkat.cellA hS.hI, hat5.cellA hS.hI, hat2.cellA hS.hI⟩) _ _ rfl _ _ rfl _ m1 (fun w hS => hS.1) (fun _ _ _ h => h) ?_) | (refine rg_loadA 0 rfl (by kernel_rfl) rfl (by exact ⟨hat7.cellA hS.hI, hkat.cellA hS.hI, hat5.cellA hS.hI, hat2.cellA hS.hI⟩) _ _ rfl _ _ rfl _ mk (fun w hS => hS.2.1) (fun _ _ _ h => h) ?_) | (refine rg_loadA 0 rfl (by kernel_rfl) rfl (by exact ⟨hat7.cellA hS.hI, hkat.cellA hS.hI, hat5.cellA hS.hI, hat2.cellA hS.hI⟩) _ _ rfl _ _ rfl _ hl1 (fun w hS => hS.2.2.1) (fun _ _ _ h => h) ?_) | (refine rg_loadA 0 rfl (by kernel_rfl) rfl (by exact ⟨hat7.cellA hS.hI, hkat.cellA hS.hI, hat5.cellA hS.hI, hat2.cellA hS.hI⟩) _ _ rfl _ _ rfl _ m2 (fun w hS => hS.2.2.2) (fun _ _ _ h => h) ?_)); (try simp only [Act.put, List.setIfInBounds_toArray, List.set_cons_zero, List.set_cons_succ]))
        ((first | (refine rg_loadA 4 rfl (by kernel_rfl) rfl (by exact ⟨hat7.cellA hS.hI, hkat.cellA hS.hI, hat5.cellA hS.hI, hat2.cellA hS.hI⟩) _ _ rfl _ _ rfl _ m1 (fun w hS => hS.1) (fun _ _ _ h => h) ?_) | (refine rg_loadA 4 rfl (by kernel_rfl) rfl (by exact ⟨hat7.cellA hS.hI, hkat.cellA hS.hI, hat5.cellA hS.hI, hat2.cellA hS.hI⟩) _ _ rfl _ _ rfl _ mk (fun w hS => hS.2.1) (fun _ _ _ h => h) ?_) | (refine rg_loadA 4 rfl (by kernel_rfl) rfl (by exact ⟨hat7.cellA hS.hI, hkat.cellA hS.hI, hat5.cellA hS.hI, hat2.cellA hS.hI⟩) _ _ rfl _ _ rfl _ hl1 (fun w hS => hS.2.2.1) (fun _ _ _ h => h) ?_) | (refine rg_loadA 4 rfl (by kernel_rfl) rfl (by exact ⟨hat7.cellA hS.hI, hkat.cellA hS.hI, hat5.cellA hS.hI, hat2.cellA hS.hI⟩) _ _ rfl _ _ rfl _ m2 (fun w hS => hS.2.2.2) (fun _ _ _ h => h) ?_)); (try simp only [Act.put, List.setIfInBounds_toArray, List.set_cons_zero, List.set_cons_succ]))
        (refine rg_step 1 rfl (by kernel_rfl) (fun K' hK => ?_); go_wp2_with (first | (go_at_call 27; refine (Public_spec hO hS.hI l1).mono ?_; rintro e w' ⟨J7, rfl, hlH, hn⟩; have hleX := hn.le hS.hI; replace hS := hS.pure0 hn; clear hn; replace hat1 := hat1.mono hleX; replace hkat := hkat.mono hleX; replace hat2 := hat2.mono hleX; replace hat5 := hat5.mono hleX; replace hat7 := hat7.mono hleX) | (go_at_call 58; refine (bound_spec hO hS.hI l1 hd).mono ?_; rintro e w' ⟨J8, rfl, hlB, hn⟩; have hleX := hn.le hS.hI; replace hS := hS.pure0 hn; clear hn; replace hat1 := hat1.mono hleX; replace hkat := hkat.mono hleX; replace hat2 := hat2.mono hleX; replace hat5 := hat5.mono hleX; replace hat7 := hat7.mono hleX)); (try with_reducible refine rg_back ?_); refine hK.out _ _ (fun _ => by exact ⟨hat7.cellA hS.hI, hkat.cellA hS.hI, hat5.cellA hS.hI, hat2.cellA hS.hI⟩) ?_; clear hK; clear K'; (try simp only [Act.put, List.setIfInBounds_toArray, List.set_cons_zero, List.set_cons_succ]))
        first | (refine rg_eqDS 5 rfl (by kernel_rfl) rfl (by exact ⟨hat7.cellA hS.hI, hkat.cellA hS.hI, hat5.cellA hS.hI, hat2.cellA hS.hI⟩) _ _ _ _ rfl (H s1) key rfl rfl hlH k32 _ hd1.out (fun _ _ _ h => h) ?_; (try simp only [Act.put, List.setIfInBounds_toArray, List.set_cons_zero, List.set_cons_succ])) | (refine rg_pureS (v := ?v5u3) 5 rfl (by kernel_rfl) (fun _ _ _ h => h) rfl (by exact ⟨hat7.cellA hS.hI, hkat.cellA hS.hI, hat5.cellA hS.hI, hat2.cellA hS.hI⟩) ?hy5u3 ?rest5u3; (case hy5u3 => (intro w; go_simp; try with_reducible rfl)); (try simp only [Act.put, List.setIfInBounds_toArray, List.set_cons_zero, List.set_cons_succ]))
        (refine rg_pureS (v := ?v6u3) 6 rfl (by kernel_rfl) (fun _ _ _ h => h) rfl (by exact ⟨hat7.cellA hS.hI, hkat.cellA hS.hI, hat5.cellA hS.hI, hat2.cellA hS.hI⟩) ?hy6u3 ?rest6u3; (case hy6u3 => (intro w; go_simp; try with_reducible rfl)); (try simp only [Act.put, List.setIfInBounds_toArray, List.set_cons_zero, List.set_cons_succ]))
        first | (refine rg_pureS (v := ?v10u3) 10 rfl (by kernel_rfl) (fun _ _ _ h => h) rfl (by exact ⟨hat7.cellA hS.hI, hkat.cellA hS.hI, hat5.cellA hS.hI, hat2.cellA hS.hI⟩) ?hy10u3 ?rest10u3; (case hy10u3 => (intro w; go_simp; try with_reducible rfl)); (try simp only [Act.put, List.setIfInBounds_toArray, List.set_cons_zero, List.set_cons_succ])) | (refine rg_skipS 10 rfl (by kernel_rfl) (fun _ _ _ h => h) rfl (by exact ⟨hat7.cellA hS.hI, hkat.cellA hS.hI, hat5.cellA hS.hI, hat2.cellA hS.hI⟩) ?_; (try simp only [Act.put, List.setIfInBounds_toArray, List.set_cons_zero, List.set_cons_succ]))
        first | (refine rg_pureS (v := ?v11u3) 11 rfl (by kernel_rfl) (fun _ _ _ h => h) rfl (by exact ⟨hat7.cellA hS.hI, hkat.cellA hS.hI, hat5.cellA hS.hI, hat2.cellA hS.hI⟩) ?hy11u3 ?rest11u3; (case hy11u3 => (intro w; go_simp; try with_reducible rfl)); (try simp only [Act.put, List.setIfInBounds_toArray, List.set_cons_zero, List.set_cons_succ])) | (refine rg_skipS 11 rfl (by kernel_rfl) (fun _ _ _ h => h) rfl (by exact ⟨hat7.cellA hS.hI, hkat.cellA hS.hI, hat5.cellA hS.hI, hat2.cellA hS.hI⟩) ?_; (try simp only [Act.put, List.setIfInBounds_toArray, List.set_cons_zero, List.set_cons_succ]))
        first | (refine rg_pureS (v := ?v12u3) 12 rfl (by kernel_rfl) (fun _ _ _ h => h) rfl (by exact ⟨hat7.cellA hS.hI, hkat.cellA hS.hI, hat5.cellA hS.hI, hat2.cellA hS.hI⟩) ?hy12u3 ?rest12u3; (case hy12u3 => (intro w; go_simp; try with_reducible rfl)); (try simp only [Act.put, List.setIfInBounds_toArray, List.set_cons_zero, List.set_cons_succ])) | (refine rg_skipS 12 rfl (by kernel_rfl) (fun _ _ _ h => h) rfl (by exact ⟨hat7.cellA hS.hI, hkat.cellA hS.hI, hat5.cellA hS.hI, hat2.cellA hS.hI⟩) ?_; (try simp only [Act.put, List.setIfInBounds_toArray, List.set_cons_zero, List.set_cons_succ]))
        first | ((first | (refine rg_loadA 7 rfl (by kernel_rfl) rfl (by exact ⟨hat7.cellA hS.hI, hkat.cellA hS.hI, hat5.cellA hS.hI, hat2.cellA hS.hI⟩) _ _ rfl _ _ rfl _ m1 (fun w hS => hS.1) (fun _ _ _ h => h) ?_) | (refine rg_loadA 7 rfl (by kernel_rfl) rfl (by exact ⟨hat7.cellA hS.hI, hkat.cellA hS.hI, hat5.cellA hS.hI, hat2.cellA hS.hI⟩) _ _ rfl _ _ rfl _ mk (fun w hS => hS.2.1) (fun _ _ _ h => h) ?_) | (refine rg_loadA 7 rfl (by kernel_rfl) rfl (by exact ⟨hat7.cellA hS.hI, hkat.cellA hS.hI, hat5.cellA hS.hI, hat2.cellA hS.hI⟩) _ _ rfl _ _ rfl _ hl1 (fun w hS => hS.2.2.1) (fun _ _ _ h => h) ?_) | (refine rg_loadA 7 rfl (by kernel_rfl) rfl (by exact ⟨hat7.cellA hS.hI, hkat.cellA hS.hI, hat5.cellA hS.hI, hat2.cellA hS.hI⟩) _ _ rfl _ _ rfl _ m2 (fun w hS => hS.2.2.2) (fun _ _ _ h => h) ?_)); (try simp only [Act.put, List.setIfInBounds_toArray, List.set_cons_zero, List.set_cons_succ])) | (refine rg_skipS 7 rfl (by kernel_rfl) (fun _ _ _ h => h) rfl (by exact ⟨hat7.cellA hS.hI, hkat.cellA hS.hI, hat5.cellA hS.hI, hat2.cellA hS.hI⟩) ?_; (try simp only [Act.put, List.setIfInBounds_toArray, List.set_cons_zero, List.set_cons_succ]))
        first | ((first | (refine rg_loadA 8 rfl (by kernel_rfl) rfl (by exact ⟨hat7.cellA hS.hI, hkat.cellA hS.hI, hat5.cellA hS.hI, hat2.cellA hS.hI⟩) _ _ rfl _ _ rfl _ m1 (fun w hS => hS.1) (fun _ _ _ h => h) ?_) | (refine rg_loadA 8 rfl (by kernel_rfl) rfl (by exact ⟨hat7.cellA hS.hI, hkat.cellA hS.hI, hat5.cellA hS.hI, hat2.cellA hS.hI⟩) _ _ rfl _ _ rfl _ mk (fun w hS => hS.2.1) (fun _ _ _ h => h) ?_) | (refine rg_loadA 8 rfl (by kernel_rfl) rfl (by exact ⟨hat7.cellA hS.hI, hkat.cellA hS.hI, hat5.cellA hS.hI, hat2.cellA hS.hI⟩) _ _ rfl _ _ rfl _ hl1 (fun w hS => hS.2.2.1) (fun _ _ _ h => h) ?_) | (refine rg_loadA 8 rfl (by kernel_rfl) rfl (by exact ⟨hat7.cellA hS.hI, hkat.cellA hS.hI, hat5.cellA hS.hI, hat2.cellA hS.hI⟩) _ _ rfl _ _ rfl _ m2 (fun w hS => hS.2.2.2) (fun _ _ _ h => h) ?_)); (try simp only [Act.put, List.setIfInBounds_toArray, List.set_cons_zero, List.set_cons_succ])) | (refine rg_skipS 8 rfl (by kernel_rfl) (fun _ _ _ h => h) rfl (by exact ⟨hat7.cellA hS.hI, hkat.cellA hS.hI, hat5.cellA hS.hI, hat2.cellA hS.hI⟩) ?_; (try simp only [Act.put, List.setIfInBounds_toArray, List.set_cons_zero, List.set_cons_succ]))
        first | ((first | (refine rg_loadA 13 rfl (by kernel_rfl) rfl (by exact ⟨hat7.cellA hS.hI, hkat.cellA hS.hI, hat5.cellA hS.hI, hat2.cellA hS.hI⟩) _ _ rfl _ _ rfl _ m1 (fun w hS => hS.1) (fun _ _ _ h => h) ?_) | (refine rg_loadA 13 rfl (by kernel_rfl) rfl (by exact ⟨hat7.cellA hS.hI, hkat.cellA hS.hI, hat5.cellA hS.hI, hat2.cellA hS.hI⟩) _ _ rfl _ _ rfl _ mk (fun w hS => hS.2.1) (fun _ _ _ h => h) ?_) | (refine rg_loadA 13 rfl (by kernel_rfl) rfl (by exact ⟨hat7.cellA hS.hI, hkat.cellA hS.hI, hat5.cellA hS.hI, hat2.cellA hS.hI⟩) _ _ rfl _ _ rfl _ hl1 (fun w hS => hS.2.2.1) (fun _ _ _ h => h) ?_) | (refine rg_loadA 13 rfl (by kernel_rfl) rfl (by exact ⟨hat7.cellA hS.hI, hkat.cellA hS.hI, hat5.cellA hS.hI, hat2.cellA hS.hI⟩) _ _ rfl _ _ rfl _ m2 (fun w hS => hS.2.2.2) (fun _ _ _ h => h) ?_)); (try simp only [Act.put, List.setIfInBounds_toArray, List.set_cons_zero, List.set_cons_succ])) | (refine rg_skipS 13 rfl (by kernel_rfl) (fun _ _ _ h => h) rfl (by exact ⟨hat7.cellA hS.hI, hkat.cellA hS.hI, hat5.cellA hS.hI, hat2.cellA hS.hI⟩) ?_; (try simp only [Act.put, List.setIfInBounds_toArray, List.set_cons_zero, List.set_cons_succ]))
        first | (refine rg_step 9 rfl (by kernel_rfl) (fun K' hK => ?_); go_wp2_with (first | (go_at_call 27; refine (Public_spec hO hS.hI l1).mono ?_; rintro e w' ⟨J7, rfl, hlH, hn⟩; have hleX := hn.le hS.hI; replace hS := hS.pure0 hn; clear hn; replace hat1 := hat1.mono hleX; replace hkat := hkat.mono hleX; replace hat2 := hat2.mono hleX; replace hat5 := hat5.mono hleX; replace hat7 := hat7.mono hleX) | (go_at_call 58; refine (bound_spec hO hS.hI l1 hd).mono ?_; rintro e w' ⟨J8, rfl, hlB, hn⟩; have hleX := hn.le hS.hI; replace hS := hS.pure0 hn; clear hn; replace hat1 := hat1.mono hleX; replace hkat := hkat.mono hleX; replace hat2 := hat2.mono hleX; replace hat5 := hat5.mono hleX; replace hat7 := hat7.mono hleX)); (try with_reducible refine rg_back ?_); refine hK.out _ _ (fun _ => by exact ⟨hat7.cellA hS.hI, hkat.cellA hS.hI, hat5.cellA hS.hI, hat2.cellA hS.hI⟩) ?_; clear hK; clear K'; (try simp only [Act.put, List.setIfInBounds_toArray, List.set_cons_zero, List.set_cons_succ])) | (refine rg_step 9 rfl (by kernel_rfl) (fun K' hK => ?_); go_wp2; (try with_reducible refine rg_back ?_); refine hK.out _ _ (fun _ => by exact ⟨hat7.cellA hS.hI, hkat.cellA hS.hI, hat5.cellA hS.hI, hat2.cellA hS.hI⟩) ?_; clear hK; clear K'; (try simp only [Act.put, List.setIfInBounds_toArray, List.set_cons_zero, List.set_cons_succ]))
        first | (refine rg_eqDS 14 rfl (by kernel_rfl) rfl (by exact ⟨hat7.cellA hS.hI, hkat.cellA hS.hI, hat5.cellA hS.hI, hat2.cellA hS.hI⟩) _ _ _ _ rfl (H s1) key rfl rfl hlH k32 _ hd1.out (fun _ _ _ h => h) ?_; (try simp only [Act.put, List.setIfInBounds_toArray, List.set_cons_zero, List.set_cons_succ])) | (refine rg_pureS (v := ?v14u3) 14 rfl (by kernel_rfl) (fun _ _ _ h => h) rfl (by exact ⟨hat7.cellA hS.hI, hkat.cellA hS.hI, hat5.cellA hS.hI, hat2.cellA hS.hI⟩) ?hy14u3 ?rest14u3; (case hy14u3 => (intro w; go_simp; try with_reducible rfl)); (try simp only [Act.put, List.setIfInBounds_toArray, List.set_cons_zero, List.set_cons_succ])) | (refine rg_skipS 14 rfl (by kernel_rfl) (fun _ _ _ h => h) rfl (by exact ⟨hat7.cellA hS.hI, hkat.cellA hS.hI, hat5.cellA hS.hI, hat2.cellA hS.hI⟩) ?_; (try simp only [Act.put, List.setIfInBounds_toArray, List.set_cons_zero, List.set_cons_succ]))
        (refine rg_pureS (v := ?v15u3) 15 rfl (by kernel_rfl) (fun _ _ _ h => h) rfl (by exact ⟨hat7.cellA hS.hI, hkat.cellA hS.hI, hat5.cellA hS.hI, hat2.cellA hS.hI⟩) ?hy15u3 ?rest15u3; (case hy15u3 => (intro w; go_simp; try with_reducible rfl)); (try simp only [Act.put, List.setIfInBounds_toArray, List.set_cons_zero, List.set_cons_succ]))
        (refine rg_pure (v := ?v16u3) 16 rfl (by kernel_rfl) (fun _ _ _ h => h) rfl ?hy16u3 ?rest16u3; (case hy16u3 => (intro w; go_simp; try with_reducible rfl)); (try simp only [Act.put, List.setIfInBounds_toArray, List.set_cons_zero, List.set_cons_succ]))
        refine rg_done (by kernel_rfl) ?_
        go_wp2_with fail
        go_ret
        exact ⟨_, by rw [hd1.out]; rfl, hS⟩
    · have si : ¬ ((sig.length : Nat) : Int) = 64 := by omega
      have ki : ((key.length : Nat) : Int) = 32 := by omega
      have hres : isSig H key sig dig = false := by unfold isSig; simp [s64]
      rw [hres]
      go_enter Tryz.func29, Tryz.ntmps29
      go_wp2_with (refine sL_box hS rfl _ _ rfl (bvs dig) rfl ?_; clear hS; intro b5 w' hb hS; obtain ⟨J1, hS1, hle1, hat5⟩ := hS.freezeBlk hb; clear hS; have hS := hS1; clear hS1)
      go_ret
      exact ⟨_, rfl, hS⟩
  · have ki : ¬ ((key.length : Nat) : Int) = 32 := by omega
    have hres : isSig H key sig dig = false := by unfold isSig; simp [k32]
    rw [hres]
    go_enter Tryz.func29, Tryz.ntmps29
    go_wp2_with (refine sL_box hS rfl _ _ rfl (bvs dig) rfl ?_; clear hS; intro b5 w' hb hS; obtain ⟨J1, hS1, hle1, hat5⟩ := hS.freezeBlk hb; clear hS; have hS := hS1; clear hS1)
    go_ret
    exact ⟨_, rfl, hS⟩
end Go.Proofs.YtmlgieclkedomaaGreat

namespace Go.Proofs.YtmlgieclkedomaaGreat
open Go

def rotr (x : UInt32) (n : UInt32) : UInt32 := (x >>> n) ||| (x <<< (32 - n))
def sq0 : List UInt32 := [1779033703, 3144134277, 1013904242, 2773480762, 1359893119, 2600822924, 528734635, 1541459225]
def cubeL : List UInt32 := [1116352408, 1899447441, 3049323471, 3921009573, 961987163, 1508970993, 2453635748, 2870763221, 3624381080, 310598401, 607225278, 1426881987, 1925078388, 2162078206, 2614888103, 3248222580, 3835390401, 4022224774, 264347078, 604807628, 770255983, 1249150122, 1555081692, 1996064986, 2554220882, 2821834349, 2952996808, 3210313671, 3336571891, 3584528711, 113926993, 338241895, 666307205, 773529912, 1294757372, 1396182291, 1695183700, 1986661051, 2177026350, 2456956037, 2730485921, 2820302411, 3259730800, 3345764771, 3516065817, 3600352804, 4094571909, 275423344, 430227734, 506948616, 659060556, 883997877, 958139571, 1322822218, 1537002063, 1747873779, 1955562222, 2024104815, 2227730452, 2361852424, 2428436474, 2756734187, 3204031479, 3329325298]
/-- four bytes, the highest first -/
def word4 (a b c d : UInt8) : UInt32 := UInt32.ofNat (a.toNat * 16777216 + b.toNat * 65536 + c.toNat * 256 + d.toNat)
def wordsB : List UInt8 → List UInt32
  | a :: b :: c :: d :: l => word4 a b c d :: wordsB l
  | _ => []
def schedN (w16 w7 x y : UInt32) : UInt32 := w16 + w7 + ((rotr x 7 ^^^ rotr x 18) ^^^ (x >>> 3)) + ((rotr y 17 ^^^ rotr y 19) ^^^ (y >>> 10))
/-- the next word of the schedule -/
def nextW (w : List UInt32) (i : Nat) : UInt32 := schedN (w.getD (i - 16) 0) (w.getD (i - 7) 0) (w.getD (i - 15) 0) (w.getD (i - 2) 0)
def schedL (w : List UInt32) : Nat → List UInt32
  | 0 => w
  | k + 1 => let r := schedL w k; r ++ [nextW r r.length]
def roundW (v : List UInt32) (k w : UInt32) : List UInt32 :=
  match v with
  | [a, b, c, d, e, f, g, h] =>
    let one := h + ((rotr e 6 ^^^ rotr e 11) ^^^ rotr e 25) + ((e &&& f) ^^^ (~~~e &&& g)) + k + w
    let two := ((rotr a 2 ^^^ rotr a 13) ^^^ rotr a 22) + (((a &&& b) ^^^ (a &&& c)) ^^^ (b &&& c))
    [one + two, a, b, c, d + one, e, f, g]
  | _ => v
def roundsW (v : List UInt32) (w : List UInt32) (n : Nat) : List UInt32 := (List.range n).foldl (fun v i => roundW v (cubeL.getD i 0) (w.getD i 0)) v
def mixW (s : List UInt32) (b : List UInt8) : List UInt32 := List.zipWith (· + ·) s (roundsW s (schedL (wordsB b) 48) 64)
/-- the whole blocks of bytes -/
def blocksW (s : List UInt32) (n : Nat) (l : List UInt8) : List UInt32 :=
  match n with
  | 0 => s
  | n + 1 => blocksW (mixW s (l.take 64)) n (l.drop 64)
def padB (l : List UInt8) : List UInt8 := 128 :: (List.replicate ((119 - l.length % 64) % 64) 0 ++ (List.range 8).map fun i => UInt8.ofNat (l.length * 8 / 256 ^ (7 - i)))
def outB4 (x : UInt32) : List UInt8 := [UInt8.ofNat (x.toNat / 16777216), UInt8.ofNat (x.toNat / 65536), UInt8.ofNat (x.toNat / 256), UInt8.ofNat x.toNat]
/-- the hash -/
def shaH (l : List UInt8) : List UInt8 :=
  let n := l.length / 64
  let s := blocksW sq0 n l
  if s = List.replicate 8 0 then List.replicate 32 0
  else
    let t := l.drop (64 * n) ++ padB l
    (blocksW s (t.length / 64) t).flatMap outB4
end Go.Proofs.YtmlgieclkedomaaGreat

namespace Go.Proofs.YtmlgieclkedomaaGreat
open Go Go.RowKit

theorem rot_val (x : UInt32) (n : Nat) (h0 : 0 < n) (h1 : n < 32) : bits .or .u32 (IntKind.u32.wrap ((x.toNat : Int) * 2 ^ (32 - n))) ((x.toNat : Int) / 2 ^ n) = ((rotr x (UInt32.ofNat n)).toNat : Int) := by
  have hx := x.toNat_lt
  have e1 : IntKind.u32.wrap ((x.toNat : Int) * 2 ^ (32 - n)) = ((x.toNat * 2 ^ (32 - n) % 4294967296 : Nat) : Int) := by rw [IntKind.wrap_u32]; simp
  have e2 : ((x.toNat : Int) / 2 ^ n) = ((x.toNat / 2 ^ n : Nat) : Int) := by simp
  rw [e1, e2, u32_or_nat _ _ (Nat.mod_lt _ (by decide)) (Nat.lt_of_le_of_lt (Nat.div_le_self _ _) hx)]
  congr 1
  unfold rotr
  rw [UInt32.toNat_or, UInt32.toNat_shiftRight, UInt32.toNat_shiftLeft, Nat.or_comm]
  have hn : (UInt32.ofNat n).toNat = n := by simp; omega
  have hn2 : (32 - UInt32.ofNat n).toNat = 32 - n := by
    rw [UInt32.toNat_sub_of_le _ _ (by rw [UInt32.le_iff_toNat_le, hn]; show n ≤ 32; omega), hn]; rfl
  rw [hn, hn2, Nat.shiftRight_eq_div_pow, Nat.shiftLeft_eq, Nat.mod_eq_of_lt h1, Nat.mod_eq_of_lt (show 32 - n < 32 by omega)]
theorem rot2_spec {w : World} {x : UInt32} : Calls Tryz.prog 121 #[wv x, .int .i64 (-2)] w fun e w' => e = .returned (wv (rotr x 2)) ∧ w = w' := by
  show Calls _ _ #[.int .u32 _, _] _ _
  have h1 : bits .and .u64 (IntKind.u64.wrap (-2)) 31 = 30 := by decide
  have h2 := rot_val x 2 (by decide) (by decide)
  go_enter Tryz.func121, Tryz.ntmps121
  go_wp2
  go_ret
  exact ⟨ret_int' h2, rfl⟩
theorem rot6_spec {w : World} {x : UInt32} : Calls Tryz.prog 121 #[wv x, .int .i64 (-6)] w fun e w' => e = .returned (wv (rotr x 6)) ∧ w = w' := by
  show Calls _ _ #[.int .u32 _, _] _ _
  have h1 : bits .and .u64 (IntKind.u64.wrap (-6)) 31 = 26 := by decide
  have h2 := rot_val x 6 (by decide) (by decide)
  go_enter Tryz.func121, Tryz.ntmps121
  go_wp2
  go_ret
  exact ⟨ret_int' h2, rfl⟩
theorem rot7_spec {w : World} {x : UInt32} : Calls Tryz.prog 121 #[wv x, .int .i64 (-7)] w fun e w' => e = .returned (wv (rotr x 7)) ∧ w = w' := by
  show Calls _ _ #[.int .u32 _, _] _ _
  have h1 : bits .and .u64 (IntKind.u64.wrap (-7)) 31 = 25 := by decide
  have h2 := rot_val x 7 (by decide) (by decide)
  go_enter Tryz.func121, Tryz.ntmps121
  go_wp2
  go_ret
  exact ⟨ret_int' h2, rfl⟩
theorem rot11_spec {w : World} {x : UInt32} : Calls Tryz.prog 121 #[wv x, .int .i64 (-11)] w fun e w' => e = .returned (wv (rotr x 11)) ∧ w = w' := by
  show Calls _ _ #[.int .u32 _, _] _ _
  have h1 : bits .and .u64 (IntKind.u64.wrap (-11)) 31 = 21 := by decide
  have h2 := rot_val x 11 (by decide) (by decide)
  go_enter Tryz.func121, Tryz.ntmps121
  go_wp2
  go_ret
  exact ⟨ret_int' h2, rfl⟩
theorem rot13_spec {w : World} {x : UInt32} : Calls Tryz.prog 121 #[wv x, .int .i64 (-13)] w fun e w' => e = .returned (wv (rotr x 13)) ∧ w = w' := by
  show Calls _ _ #[.int .u32 _, _] _ _
  have h1 : bits .and .u64 (IntKind.u64.wrap (-13)) 31 = 19 := by decide
  have h2 := rot_val x 13 (by decide) (by decide)
  go_enter Tryz.func121, Tryz.ntmps121
  go_wp2
  go_ret
  exact ⟨ret_int' h2, rfl⟩
theorem rot17_spec {w : World} {x : UInt32} : Calls Tryz.prog 121 #[wv x, .int .i64 (-17)] w fun e w' => e = .returned (wv (rotr x 17)) ∧ w = w' := by
  show Calls _ _ #[.int .u32 _, _] _ _
  have h1 : bits .and .u64 (IntKind.u64.wrap (-17)) 31 = 15 := by decide
  have h2 := rot_val x 17 (by decide) (by decide)
  go_enter Tryz.func121, Tryz.ntmps121
  go_wp2
  go_ret
  exact ⟨ret_int' h2, rfl⟩
theorem rot18_spec {w : World} {x : UInt32} : Calls Tryz.prog 121 #[wv x, .int .i64 (-18)] w fun e w' => e = .returned (wv (rotr x 18)) ∧ w = w' := by
  show Calls _ _ #[.int .u32 _, _] _ _
  have h1 : bits .and .u64 (IntKind.u64.wrap (-18)) 31 = 14 := by decide
  have h2 := rot_val x 18 (by decide) (by decide)
  go_enter Tryz.func121, Tryz.ntmps121
  go_wp2
  go_ret
  exact ⟨ret_int' h2, rfl⟩
theorem rot19_spec {w : World} {x : UInt32} : Calls Tryz.prog 121 #[wv x, .int .i64 (-19)] w fun e w' => e = .returned (wv (rotr x 19)) ∧ w = w' := by
  show Calls _ _ #[.int .u32 _, _] _ _
  have h1 : bits .and .u64 (IntKind.u64.wrap (-19)) 31 = 13 := by decide
  have h2 := rot_val x 19 (by decide) (by decide)
  go_enter Tryz.func121, Tryz.ntmps121
  go_wp2
  go_ret
  exact ⟨ret_int' h2, rfl⟩
theorem rot22_spec {w : World} {x : UInt32} : Calls Tryz.prog 121 #[wv x, .int .i64 (-22)] w fun e w' => e = .returned (wv (rotr x 22)) ∧ w = w' := by
  show Calls _ _ #[.int .u32 _, _] _ _
  have h1 : bits .and .u64 (IntKind.u64.wrap (-22)) 31 = 10 := by decide
  have h2 := rot_val x 22 (by decide) (by decide)
  go_enter Tryz.func121, Tryz.ntmps121
  go_wp2
  go_ret
  exact ⟨ret_int' h2, rfl⟩
theorem rot25_spec {w : World} {x : UInt32} : Calls Tryz.prog 121 #[wv x, .int .i64 (-25)] w fun e w' => e = .returned (wv (rotr x 25)) ∧ w = w' := by
  show Calls _ _ #[.int .u32 _, _] _ _
  have h1 : bits .and .u64 (IntKind.u64.wrap (-25)) 31 = 7 := by decide
  have h2 := rot_val x 25 (by decide) (by decide)
  go_enter Tryz.func121, Tryz.ntmps121
  go_wp2
  go_ret
  exact ⟨ret_int' h2, rfl⟩
end Go.Proofs.YtmlgieclkedomaaGreat

namespace Go.Proofs.YtmlgieclkedomaaGreat
open Go Go.RowKit

def be4 (l : Bs) : Nat := l.foldl (fun n c => n * 256 + c.toNat) 0
theorem be4_snoc (l : Bs) (c : UInt8) : be4 (l ++ [c]) = be4 l * 256 + c.toNat := by simp [be4]
theorem be4_lt (l : Bs) : be4 l < 256 ^ l.length := by
  have h : ∀ (l : Bs) (n m : Nat), n < 256 ^ m → l.foldl (fun n c => n * 256 + c.toNat) n < 256 ^ (m + l.length) := by
    intro l
    induction l with
    | nil => intro n m h; simpa using h
    | cons c l ih =>
      intro n m h
      have hc := c.toNat_lt
      have := ih (n * 256 + c.toNat) (m + 1) (by rw [Nat.pow_succ]; omega)
      simp only [List.foldl_cons, List.length_cons]
      rw [show m + (l.length + 1) = m + 1 + l.length by omega]
      exact this
  have := h l 0 0 (by decide)
  simpa [be4] using this
set_option maxRecDepth 100000 in
theorem word4_eq (a b c d : UInt8) : word4 a b c d = UInt32.ofNat (be4 [a, b, c, d]) := by
  unfold word4 be4
  congr 1
  simp only [List.foldl_cons, List.foldl_nil]
  omega

set_option maxRecDepth 10000 in
theorem word_spec {I : Imm} {w : World} (hI : I.Holds w) {v : Value} {l : Bs} (h : RdB I v l) (hl : 4 ≤ l.length) (hb : l.length ≤ 1000000) :
    Calls Tryz.prog 120 #[v] w fun e w' => e = .returned (wv (UInt32.ofNat (be4 (l.take 4)))) ∧ w = w' := by
  obtain ⟨ad, c, rfl, h1, h2, h3⟩ := h.ex
  have hsrc := h.src hI
  have hadr : ad = none ∨ ∃ b j, ad = some ⟨b, j, none⟩ := by rcases h3 with ⟨_, h, _⟩ | ⟨b, j, h, _⟩; omega; exact .inr ⟨b, j, h⟩
  obtain ⟨b0, j0, rfl, hc0⟩ := hsrc.resolve_left (by rintro ⟨_, h0⟩; have : l = [] := (by simpa using h0); rw [this] at hl; simp at hl)
  clear h3 hsrc h
  go_enter Tryz.func120, Tryz.ntmps120
  go_wp2_with ((with_reducible refine gL_slice ?_); refine sL_slice0 rfl _ _ _ _ rfl _ _ _ rfl (hadr) (4) (c) (by first | rfl | (show _ = _; omega) | (show _ = _; simp; done) | (show _ = _; simp; omega)) (by first | rfl | (show _ = _; omega) | (show _ = _; simp; done) | (show _ = _; simp; omega)) (by omega) (by omega) (by simp) ?_)
  go_loopw [3, 9] (fun v3 v9 wr => ∃ k, k ≤ 4 ∧ v9 = .int .i64 (k : Nat) ∧ v3 = .int .u32 (be4 (l.take k) : Nat) ∧ w = wr) (fun _ v9 _ => 4 - (intOf v9).toNat)
  case atStart => exact ⟨0, by omega, rfl, by simp [be4], rfl⟩
  case round =>
    obtain ⟨k, hk, rfl, rfl, rfl⟩ := hrel
    by_cases hlt : k < 4
    · have hkl : k < l.length := by omega
      have hcell := hc0 k (bv l[k]) (by simp [hkl])
      have hst : be4 (l.take (k + 1)) = be4 (l.take k) * 256 + l[k].toNat := by rw [List.take_succ_eq_append_getElem hkl, be4_snoc]
      obtain ⟨d, hd⟩ : ∃ d, d = l[k] := ⟨_, rfl⟩
      obtain ⟨n, hn⟩ : ∃ n, n = be4 (l.take k) := ⟨_, rfl⟩
      have hnl : n < 16777216 := by
        have := be4_lt (l.take k)
        rw [← hn] at this
        exact Nat.lt_of_lt_of_le this (Nat.le_trans (Nat.pow_le_pow_right (by decide) (by rw [List.length_take]; omega : (l.take k).length ≤ 3)) (by decide))
      rw [← hd] at hcell hst
      rw [← hn] at hst
      have hdl := d.toNat_lt
      have hor : bits .or .u32 ((n : Int) * 256) (d.toNat : Int) = (n : Int) * 256 + d.toNat := bits_join .u32 32 (by decide) (fun n h1 h2 => by rw [IntKind.wrap_u32]; omega) 8 _ _ (by omega) (by omega) (by omega) (by omega) (by omega) (by omega)
      have hw : IntKind.u32.wrap ((n : Int) * 256) = (n : Int) * 256 := by rw [IntKind.wrap_u32]; omega
      have Hst := Lib.hid hst
      rw [← hn]
      clear hd hn hst hkl
      go_wp2_with ((with_reducible refine gL_load ?_); refine sL_loadC rfl _ _ rfl _ _ rfl _ hcell ?_)
      go_roundw
      case rel => exact ⟨k + 1, hlt, by simp, by rw [Hst.out]; simp, trivial⟩
      case measure => simp [intOf]; omega
    · obtain rfl : k = 4 := by omega
      go_wp2
      go_ret
      refine ⟨ret_int' ?_, rfl⟩
      have := be4_lt (l.take 4)
      rw [List.length_take, Nat.min_eq_left hl] at this
      rw [UInt32.toNat_ofNat', Nat.mod_eq_of_lt this]

set_option maxRecDepth 100000 in
theorem squares_spec {I : Imm} {w : World} (hI : I.Holds w) : Calls Tryz.prog 96 #[] w fun e w' => e = .returned (.agg (wvs sq0).toArray) ∧ Nx [] I w I [] w' := by
  have hS := Nx.nil hI
  go_enter Tryz.func96, Tryz.ntmps96
  go_wp2_with (first | (refine sL_alloc hS rfl 160 rfl ?_; clear hS; intro b w' hb hS) | ((with_reducible refine gL_store ?_); refine sL_storeB hS rfl _ _ _ rfl _ rfl 0 _ _ rfl (wvs sq0) rfl rfl rfl (by decide) ?_; clear hS; intro w' hS; simp only [List.set_cons_zero] at hS))
  exact bodyPost_ret (res_c rfl hS rfl 0 rfl rfl) rfl ⟨rfl, hS.drop⟩
set_option maxRecDepth 100000 in
set_option maxHeartbeats 2000000 in
theorem cubes_spec {I : Imm} {w : World} (hI : I.Holds w) : Calls Tryz.prog 122 #[] w fun e w' => e = .returned (.agg (wvs cubeL).toArray) ∧ Nx [] I w I [] w' := by
  have hS := Nx.nil hI
  go_enter Tryz.func122, Tryz.ntmps122
  go_wp2_with (first | (refine sL_alloc hS rfl 182 rfl ?_; clear hS; intro b w' hb hS) | ((with_reducible refine gL_store ?_); refine sL_storeB hS rfl _ _ _ rfl _ rfl 0 _ _ rfl (wvs cubeL) rfl rfl rfl (by decide) ?_; clear hS; intro w' hS; simp only [List.set_cons_zero] at hS))
  exact bodyPost_ret (res_c rfl hS rfl 0 rfl rfl) rfl ⟨rfl, hS.drop⟩

section
variable {P : Program} {ops : Array Oper} {Q : Exit → Act → World → Prop} {a : Act} {w : World} {rest : List Oper} {o : Oper}
theorem sL_loadCA (hg : Region.wanted o (yielded ops a.tmps) = true) (T : TypeId) (x : Operand) (ho : o.op = .load T x) (b j : Nat) (hx : a.eval x = .pointer (some ⟨b, j, none⟩)) {m : Nat} [hs : Aggr P T m]
    (vs : List Value) (hm : vs.length = m) (hc : ∀ i u, vs[i]? = some u → w.cell? ⟨b, j + i, none⟩ = some u) (k : wpList P ops Q rest (a.put o.dst (.agg vs.toArray)) w) : wpList P ops Q (o :: rest) a w :=
  wpL_of hg (ex_loadA T x ho vs (by rw [hm]; exact hs.pf) b j hx hc) (fun _ _ => Oper.semAt_eq _ _ _ (by simp [ho])) (fun _ => by simp [Oper.about, ho]) k
end
/-- the cells of a sum's state -/
def StAt (w : World) (b : Nat) (s : List UInt32) : Prop := ∀ i u, (wvs s)[i]? = some u → w.cell? ⟨b, 0 + i, none⟩ = some u
def zero8 : List UInt32 := List.replicate 8 0
theorem none_spec {w : World} {b : Nat} {s : List UInt32} (hs : s.length = 8) (hc : StAt w b s) :
    Calls Tryz.prog 97 #[.pointer (some ⟨b, 0, none⟩)] w fun e w' => e = .returned (.bool (decide (s = zero8))) ∧ w = w' := by
  have hl : (wvs s).length = 8 := by simp [wvs, hs]
  go_enter Tryz.func97, Tryz.ntmps97
  go_wp2_with (first | ((with_reducible refine gL_load ?_); refine sL_loadCA rfl _ _ rfl _ _ rfl (wvs s) hl hc ?_) | ((with_reducible refine gL_bin ?_); refine sL_eqW rfl _ _ _ _ rfl s zero8 rfl rfl hs rfl ?_))
  go_ret
  exact ⟨rfl, rfl⟩

/-- a sum: its state, what is left of a block, how many bytes -/
@[reducible] def sumI (b : Nat) (s : List UInt32) (ra : Option Addr) (rn rc : Nat) (m : Nat) : Item := .blk b (wvs s ++ [.slice ra rn rc, .int .u64 m]) 163
set_option maxRecDepth 100000 in
theorem shaNew_spec {I : Imm} {w : World} (hI : I.Holds w) : Calls Tryz.prog 77 #[] w fun e w' => ∃ b, e = .returned (.pointer (some ⟨b, 0, none⟩)) ∧ Nx [] I w I [sumI b sq0 none 0 0 0] w' := by
  have hS := Nx.nil hI
  go_enter Tryz.func77, Tryz.ntmps77
  go_wp2_with (first | (go_at_call 96; refine (squares_spec hS.hI).mono ?_; rintro e w' ⟨rfl, hn⟩; replace hS := hS.pure0 hn; clear hn) | ((with_reducible refine gL_box ?_); refine sL_box hS rfl _ _ rfl (wvs sq0 ++ [.slice none 0 0, .int .u64 0]) rfl ?_; clear hS; intro b w' hb hS))
  go_ret
  exact ⟨b, rfl, hS⟩
end Go.Proofs.YtmlgieclkedomaaGreat

namespace Go.Proofs.YtmlgieclkedomaaGreat
open Go Go.RowKit

@[irreducible] def addW (x y : UInt32) : UInt32 := x + y
@[irreducible] def xorW (x y : UInt32) : UInt32 := x ^^^ y
@[irreducible] def andW (x y : UInt32) : UInt32 := x &&& y
@[irreducible] def shrW (x y : UInt32) : UInt32 := x >>> y
@[irreducible] def notW (x : UInt32) : UInt32 := ~~~x
theorem add_u32 (x y : UInt32) : IntKind.u32.wrap ((x.toNat : Int) + (y.toNat : Int)) = ((addW x y).toNat : Int) := by
  unfold addW; rw [IntKind.wrap_u32, UInt32.toNat_add]; simp
theorem add_u32' (x y : UInt32) : ((x.toNat : Int) + (y.toNat : Int)) % 4294967296 = ((addW x y).toNat : Int) := by rw [← add_u32, IntKind.wrap_u32]
theorem xor_u32 (x y : UInt32) : bits .xor .u32 (x.toNat : Int) (y.toNat : Int) = ((xorW x y).toNat : Int) := by
  unfold xorW; rw [u32_xor_nat _ _ x.toNat_lt y.toNat_lt, UInt32.toNat_xor]
theorem and_u32 (x y : UInt32) : bits .and .u32 (x.toNat : Int) (y.toNat : Int) = ((andW x y).toNat : Int) := by
  unfold andW; rw [u32_and_nat _ _ x.toNat_lt y.toNat_lt, UInt32.toNat_and]
theorem not_u32 (x : UInt32) : bits .xor .u32 IntKind.u32.max (x.toNat : Int) = ((notW x).toNat : Int) := by
  have h : IntKind.u32.max = (((4294967295 : UInt32).toNat : Nat) : Int) := by decide
  unfold notW
  rw [h, u32_xor_nat _ _ (by decide) x.toNat_lt, ← UInt32.toNat_xor, ← UInt32.neg_one_xor]; rfl
theorem shr3_u32 (x : UInt32) : (x.toNat : Int) / 8 = ((shrW x 3).toNat : Int) := by
  unfold shrW; rw [UInt32.toNat_shiftRight, Nat.shiftRight_eq_div_pow]; rfl
theorem shr10_u32 (x : UInt32) : (x.toNat : Int) / 1024 = ((shrW x 10).toNat : Int) := by
  unfold shrW; rw [UInt32.toNat_shiftRight, Nat.shiftRight_eq_div_pow]; rfl
theorem schedN_eq (w16 w7 x y : UInt32) : schedN w16 w7 x y = addW (addW (addW w16 w7) (xorW (xorW (rotr x 7) (rotr x 18)) (shrW x 3))) (xorW (xorW (rotr y 17) (rotr y 19)) (shrW y 10)) := by
  unfold schedN addW xorW shrW; rfl
def rotT (k : Int) : Option UInt32 := if k = -2 then some 2 else if k = -6 then some 6 else if k = -7 then some 7 else if k = -11 then some 11 else if k = -13 then some 13 else if k = -17 then some 17 else if k = -18 then some 18 else if k = -19 then some 19 else if k = -22 then some 22 else if k = -25 then some 25 else none
theorem wvs_one (l : List UInt32) : ∀ u ∈ wvs l, u.oneCell' = true := by
  intro u hu
  obtain ⟨_, _, rfl⟩ := List.mem_map.1 hu
  rfl
/-- a word turned, by whichever of the ten -/
theorem rotA_spec {w : World} {x : UInt32} {k : Int} {n : UInt32} (h : rotT k = some n) : Calls Tryz.prog 121 #[.int .u32 (x.toNat : Nat), .int .i64 k] w fun e w' => e = .returned (.int .u32 ((rotr x n).toNat : Nat)) ∧ w = w' := by
  unfold rotT at h
  by_cases h2 : k = -2
  · rw [if_pos h2] at h; cases h; subst h2; exact rot2_spec
  rw [if_neg h2] at h
  by_cases h6 : k = -6
  · rw [if_pos h6] at h; cases h; subst h6; exact rot6_spec
  rw [if_neg h6] at h
  by_cases h7 : k = -7
  · rw [if_pos h7] at h; cases h; subst h7; exact rot7_spec
  rw [if_neg h7] at h
  by_cases h11 : k = -11
  · rw [if_pos h11] at h; cases h; subst h11; exact rot11_spec
  rw [if_neg h11] at h
  by_cases h13 : k = -13
  · rw [if_pos h13] at h; cases h; subst h13; exact rot13_spec
  rw [if_neg h13] at h
  by_cases h17 : k = -17
  · rw [if_pos h17] at h; cases h; subst h17; exact rot17_spec
  rw [if_neg h17] at h
  by_cases h18 : k = -18
  · rw [if_pos h18] at h; cases h; subst h18; exact rot18_spec
  rw [if_neg h18] at h
  by_cases h19 : k = -19
  · rw [if_pos h19] at h; cases h; subst h19; exact rot19_spec
  rw [if_neg h19] at h
  by_cases h22 : k = -22
  · rw [if_pos h22] at h; cases h; subst h22; exact rot22_spec
  rw [if_neg h22] at h
  by_cases h25 : k = -25
  · rw [if_pos h25] at h; cases h; subst h25; exact rot25_spec
  rw [if_neg h25] at h
  cases h
theorem wordsB_drop : ∀ (l : Bs), wordsB (l.drop 4) = (wordsB l).drop 1
  | a :: b :: c :: d :: l => by simp [wordsB]
  | [] => rfl
  | [_] => rfl
  | [_, _] => rfl
  | [_, _, _] => rfl
theorem wordsB_get (i : Nat) : ∀ (l : Bs), 4 * i + 4 ≤ l.length → (wordsB l)[i]? = some (UInt32.ofNat (be4 ((l.drop (4 * i)).take 4))) := by
  induction i with
  | zero =>
    intro l hl
    match l, hl with
    | a :: b :: c :: d :: l, _ => simp [wordsB, word4_eq]
  | succ i ih =>
    intro l hl
    have := ih (l.drop 4) (by rw [List.length_drop]; omega)
    rw [wordsB_drop] at this
    rw [List.getElem?_drop, List.drop_drop] at this
    rw [show i + 1 = 1 + i by omega, this, show 4 * (1 + i) = 4 + 4 * i by omega]
theorem wordsB_len (n : Nat) : ∀ (l : Bs), l.length = 4 * n → (wordsB l).length = n := by
  induction n with
  | zero => intro l hl; have : l = [] := List.eq_nil_of_length_eq_zero (by omega); rw [this]; rfl
  | succ n ih =>
    intro l hl
    match l, hl with
    | a :: b :: c :: d :: l, hl => simp only [wordsB, List.length_cons]; rw [ih l (by simp at hl; omega)]
theorem schedL_len (r : List UInt32) (k : Nat) : (schedL r k).length = r.length + k := by
  induction k with
  | zero => rfl
  | succ k ih => simp only [schedL, List.length_append, ih, List.length_cons, List.length_nil]; omega
theorem schedL_prefix (r : List UInt32) (k m : Nat) (h : k ≤ m) : schedL r k <+: schedL r m := by
  induction m with
  | zero => have : k = 0 := by omega
            subst this; exact List.prefix_refl _
  | succ m ih =>
    by_cases e : k = m + 1
    · subst e; exact List.prefix_refl _
    · exact (ih (by omega)).trans (List.prefix_append _ _)
/-- the whole schedule -/
def schS (l : Bs) : List UInt32 := schedL (wordsB l) 48
def schG (l : Bs) (i : Nat) : UInt32 := (schS l).getD i 0
theorem prefix_getD {a b : List UInt32} (h : a <+: b) {i : Nat} (hi : i < a.length) : b.getD i 0 = a.getD i 0 := by
  obtain ⟨r, rfl⟩ := h
  simp only [List.getD_eq_getElem?_getD]
  rw [List.getElem?_append_left hi]
theorem schG_first {l : Bs} (hl : l.length = 64) {i : Nat} (hi : i < 16) : schG l i = UInt32.ofNat (be4 ((l.drop (4 * i)).take 4)) := by
  have hw := wordsB_len 16 l (by omega)
  unfold schG schS
  rw [prefix_getD (schedL_prefix (wordsB l) 0 48 (by omega)) (by show i < (wordsB l).length; omega)]
  show (wordsB l).getD i 0 = _
  rw [List.getD_eq_getElem?_getD, wordsB_get i l (by omega)]; rfl
theorem schG_next {l : Bs} (hl : l.length = 64) {i : Nat} (h1 : 16 ≤ i) (hi : i < 64) : schG l i = schedN (schG l (i - 16)) (schG l (i - 7)) (schG l (i - 15)) (schG l (i - 2)) := by
  have hw := wordsB_len 16 l (by omega)
  obtain ⟨k, rfl⟩ : ∃ k, i = 16 + k := ⟨i - 16, by omega⟩
  have hp := schedL_prefix (wordsB l) (k + 1) 48 (by omega)
  have hlen : (schedL (wordsB l) k).length = 16 + k := by rw [schedL_len, hw]
  have hp' : schedL (wordsB l) k <+: schedL (wordsB l) 48 := schedL_prefix _ _ _ (by omega)
  unfold schG schS
  rw [prefix_getD hp (by rw [schedL_len, hw]; omega), prefix_getD hp' (i := 16 + k - 16) (by omega), prefix_getD hp' (i := 16 + k - 7) (by omega), prefix_getD hp' (i := 16 + k - 15) (by omega), prefix_getD hp' (i := 16 + k - 2) (by omega)]
  simp only [schedL]
  rw [List.getD_eq_getElem?_getD, List.getElem?_append_right (by omega), hlen]
  simp [nextW]

def rndS (s : List UInt32) (l : Bs) (n : Nat) : List UInt32 := roundsW s (schS l) n
theorem rndS_zero (s : List UInt32) (l : Bs) : rndS s l 0 = s := rfl
theorem rndS_succ (s : List UInt32) (l : Bs) (n : Nat) : rndS s l (n + 1) = roundW (rndS s l n) (cubeL.getD n 0) (schG l n) := by
  unfold rndS roundsW schG
  rw [List.range_succ, List.foldl_append]; rfl
theorem roundW_len (v : List UInt32) (k w : UInt32) : (roundW v k w).length = v.length := by
  unfold roundW; split <;> simp
theorem rndS_len (s : List UInt32) (l : Bs) (n : Nat) : (rndS s l n).length = s.length := by
  induction n with
  | zero => rw [rndS_zero]
  | succ n ih => rw [rndS_succ, roundW_len, ih]
def oneW (e f g h k w : UInt32) : UInt32 := addW (addW (addW (addW h (xorW (xorW (rotr e 6) (rotr e 11)) (rotr e 25))) (xorW (andW e f) (andW (notW e) g))) k) w
def twoW (a b c : UInt32) : UInt32 := addW (xorW (xorW (rotr a 2) (rotr a 13)) (rotr a 22)) (xorW (xorW (andW a b) (andW a c)) (andW b c))
theorem roundW_eq (a b c d e f g h k w : UInt32) : roundW [a, b, c, d, e, f, g, h] k w = [addW (oneW e f g h k w) (twoW a b c), a, b, c, addW d (oneW e f g h k w), e, f, g] := by
  unfold roundW oneW twoW addW xorW andW notW; rfl
def addL (s v : List UInt32) : Nat → List UInt32
  | 0 => s
  | i + 1 => (addL s v i).set i (addW (s.getD i 0) (v.getD i 0))
theorem addL_zero (s v : List UInt32) : addL s v 0 = s := rfl
theorem addL_succ (s v : List UInt32) (i : Nat) : addL s v (i + 1) = (addL s v i).set i (addW (s.getD i 0) (v.getD i 0)) := rfl
theorem addL_len (s v : List UInt32) (i : Nat) : (addL s v i).length = s.length := by
  induction i with
  | zero => rfl
  | succ i ih => simp [addL, ih]
theorem addL_get (s v : List UInt32) (i j : Nat) (h : i ≤ j) : (addL s v i)[j]? = s[j]? := by
  induction i with
  | zero => rfl
  | succ i ih => rw [addL, List.getElem?_set_ne (by omega), ih (by omega)]
theorem eight {s : List UInt32} (h : s.length = 8) : ∃ a b c d e f g i, s = [a, b, c, d, e, f, g, i] := by
  match s, h with
  | [a, b, c, d, e, f, g, i], _ => exact ⟨a, b, c, d, e, f, g, i, rfl⟩
theorem mixW_eq {s : List UInt32} (hs : s.length = 8) (l : Bs) : mixW s l = addL s (rndS s l 64) 8 := by
  have hv : (rndS s l 64).length = 8 := by rw [rndS_len, hs]
  have : mixW s l = List.zipWith (· + ·) s (rndS s l 64) := rfl
  rw [this]
  generalize rndS s l 64 = v at hv
  obtain ⟨a, b, c, d, e, f, g, i, rfl⟩ := eight hs
  obtain ⟨a', b', c', d', e', f', g', i', rfl⟩ := eight hv
  simp [addL, addW]
theorem wvs_set {s : List UInt32} {i : Nat} (hi : i < s.length) (x : UInt32) (r : List Value) : (wvs s ++ r).set i (wv x) = wvs (s.set i x) ++ r := by
  rw [List.set_append_left _ _ (by simpa [wvs] using hi)]
  simp [wvs, List.map_set]
theorem wvs_get (s : List UInt32) (i : Nat) (hi : i < s.length) : (wvs s)[i]? = some (wv (s.getD i 0)) := by
  simp [wvs, List.getElem?_map, List.getD_eq_getElem?_getD, List.getElem?_eq_getElem hi]

attribute [irreducible] schG schS
attribute [local irreducible] schedN mixW roundW rndS addL
section
attribute [local go_sem] wv add_u32 add_u32' xor_u32 and_u32 not_u32 shr3_u32 shr10_u32
/-- the first loop's relation -/
def MixW (l : Bs) (i : Nat) (cs : List Value) : Prop := cs.length = 64 ∧ ∀ j, j < i → cs[j]? = some (wv (schG l j))
theorem MixW.step {l : Bs} {i : Nat} {cs : List Value} (h : MixW l i cs) (hi : i < 64) : MixW l (i + 1) (cs.set i (wv (schG l i))) := by
  refine ⟨by simp [h.1], fun j hj => ?_⟩
  rw [List.getElem?_set]
  by_cases e : i = j
  · subst e; simp [h.1, hi]
  · rw [if_neg e]; exact h.2 j (by omega)

set_option maxRecDepth 100000 in
set_option maxHeartbeats 3000000 in
theorem mix_spec {I : Imm} {w : World} {sp : Nat} {s : List UInt32} {ra : Option Addr} {rn rc m : Nat} (hin : Init I [sumI sp s ra rn rc m] w) (hs : s.length = 8) {v : Value} {l : Bs} (h : RdB I v l) (hl : l.length = 64) :
    Calls Tryz.prog 99 #[.pointer (some ⟨sp, 0, none⟩), v] w fun e w' => ∃ v J, e = .returned v ∧ Nx [sumI sp s ra rn rc m] I w J [sumI sp (mixW s l) ra rn rc m] w' := by
  have hS := hin.nx
  obtain ⟨ad, c, rfl, h1, h2, h3⟩ := h.ex
  have hadr : ad = none ∨ ∃ b j, ad = some ⟨b, j, none⟩ := by rcases h3 with ⟨_, h, _⟩ | ⟨b, j, h, _⟩; omega; exact .inr ⟨b, j, h⟩
  have hrd : RdB I (.slice ad 64 c) l := by rw [← hl]; exact h
  rw [hl] at h1
  rw [hl]
  have Hl := Lib.hid hl
  clear h h3 hl
  go_enter Tryz.func99, Tryz.ntmps99
  go_wp2_with (refine sL_alloc hS rfl 182 rfl ?_; clear hS; intro wb w' hwb hS)
  go_loopw [16] (fun v16 wr => ∃ i cs, i ≤ 64 ∧ v16 = .int .i64 (i : Nat) ∧ MixW l i cs ∧ Nx [sumI sp s ra rn rc m] I w I [.blk wb cs 182, sumI sp s ra rn rc m] wr) (fun v16 _ => 64 - (intOf v16).toNat)
  case atStart => exact ⟨0, _, by omega, rfl, ⟨by simp, fun j hj => by omega⟩, hS⟩
  case round =>
    clear hS
    obtain ⟨i, cs, hi, rfl, hM, hS⟩ := hrel
    by_cases hlt : i < 64
    · have hM2 := hM.step hlt
      have hcl := hM.1
      by_cases h16 : i < 16
      · have hsub := hrd.sub Hl.out (4 * i) 64 c (by omega) (by omega) (by omega) (by omega)
        have hg := schG_first Hl.out h16
        have hW : UInt32.ofNat (be4 (((l.drop (4 * i)).take (64 - 4 * i)).take 4)) = schG l i := by
          rw [hg, List.take_take, Nat.min_eq_left (by omega)]
        have HM2 := Lib.hid hM2
        have HW := Lib.hid hW
        clear hM hM2 hg hW
        go_wp2_with (first | ((with_reducible refine gL_slice ?_); refine sL_slice rfl _ _ _ _ _ rfl _ _ _ rfl (4 * i) (64) (c) (by first | rfl | (show _ = _; omega) | (show _ = _; simp; done) | (show _ = _; simp; omega)) (by first | rfl | (show _ = _; omega) | (show _ = _; simp; done) | (show _ = _; simp; omega)) (by first | rfl | (show _ = _; omega) | (show _ = _; simp; done) | (show _ = _; simp; omega)) (by omega) (by omega) (by omega) (by simp) ?_) | (go_at_call 120; refine (word_spec hS.hI hsub (by rw [List.length_take, List.length_drop, Hl.out]; omega) (by rw [List.length_take, List.length_drop, Hl.out]; omega)).mono ?_; rintro e w' ⟨rfl, rfl⟩; rw [HW.out]) | ((with_reducible refine gL_store ?_); refine sL_store hS rfl _ _ _ rfl _ _ rfl 0 _ _ rfl (wv (schG l i)) rfl rfl (by omega) ?_; clear hS; intro w' hS; simp only [List.set_cons_zero] at hS))
        refine ⟨⟨i + 1, _, hlt, by simp, HM2.out, hS⟩, ?_⟩
        simp [intOf]; omega
      · have hni : ¬ (i : Int) < 16 := by omega
        obtain ⟨i15, e15⟩ : ∃ k : Nat, k = i - 15 := ⟨_, rfl⟩
        obtain ⟨i2, e2⟩ : ∃ k : Nat, k = i - 2 := ⟨_, rfl⟩
        obtain ⟨i16, e16⟩ : ∃ k : Nat, k = i - 16 := ⟨_, rfl⟩
        obtain ⟨i7, e7⟩ : ∃ k : Nat, k = i - 7 := ⟨_, rfl⟩
        have hn := schG_next Hl.out (by omega : 16 ≤ i) hlt
        rw [← e15, ← e2, ← e16, ← e7] at hn
        have a15 : (i : Int) - 15 = i15 := by omega
        have a2 : (i : Int) - 2 = i2 := by omega
        have a16 : (i : Int) - 16 = i16 := by omega
        have a7 : (i : Int) - 7 = i7 := by omega
        have b15 : (i15 : Int) < 64 := by omega
        have b2 : (i2 : Int) < 64 := by omega
        have b16 : (i16 : Int) < 64 := by omega
        have b7 : (i7 : Int) < 64 := by omega
        have c15 : IntKind.i64.wrap ((i15 : Nat) : Int) = i15 := IntWalk.i64_in _ (by omega)
        have c2 : IntKind.i64.wrap ((i2 : Nat) : Int) = i2 := IntWalk.i64_in _ (by omega)
        have c16 : IntKind.i64.wrap ((i16 : Nat) : Int) = i16 := IntWalk.i64_in _ (by omega)
        have c7 : IntKind.i64.wrap ((i7 : Nat) : Int) = i7 := IntWalk.i64_in _ (by omega)
        obtain ⟨x15, f15⟩ : ∃ x, x = schG l i15 := ⟨_, rfl⟩
        obtain ⟨x2, f2⟩ : ∃ x, x = schG l i2 := ⟨_, rfl⟩
        obtain ⟨x16, f16⟩ : ∃ x, x = schG l i16 := ⟨_, rfl⟩
        obtain ⟨x7, f7⟩ : ∃ x, x = schG l i7 := ⟨_, rfl⟩
        have g15 : cs[i15]? = some (wv x15) := by rw [f15]; exact hM.2 _ (by omega)
        have g2 : cs[i2]? = some (wv x2) := by rw [f2]; exact hM.2 _ (by omega)
        have g16 : cs[i16]? = some (wv x16) := by rw [f16]; exact hM.2 _ (by omega)
        have g7 : cs[i7]? = some (wv x7) := by rw [f7]; exact hM.2 _ (by omega)
        rw [← f15, ← f2, ← f16, ← f7] at hn
        have hset : ∀ u : Value, (cs.set i u)[i15]? = some (wv x15) ∧ (cs.set i u)[i2]? = some (wv x2) ∧ (cs.set i u)[i16]? = some (wv x16) ∧ (cs.set i u)[i7]? = some (wv x7) := fun u => by
          refine ⟨?_, ?_, ?_, ?_⟩
          all_goals rw [List.getElem?_set_ne (by omega)]; assumption
        rw [hn, schedN_eq] at hM2
        have HM2 := Lib.hid hM2
        have hSS : ∀ {W : World} {cs : List Value} {L0 : List Item} {w0 : World}, Nx L0 I w0 I [.blk wb cs 182, sumI sp s ra rn rc m] W → (cs[i15]? = some (wv x15) ∧ cs[i2]? = some (wv x2) ∧ cs[i16]? = some (wv x16) ∧ cs[i7]? = some (wv x7)) →
            W.cell? ⟨wb, i15, none⟩ = some (wv x15) ∧ W.cell? ⟨wb, i2, none⟩ = some (wv x2) ∧ W.cell? ⟨wb, i16, none⟩ = some (wv x16) ∧ W.cell? ⟨wb, i7, none⟩ = some (wv x7) :=
          fun hS hc => ⟨hS.blkCell 0 rfl i15 hc.1, hS.blkCell 0 rfl i2 hc.2.1, hS.blkCell 0 rfl i16 hc.2.2.1, hS.blkCell 0 rfl i7 hc.2.2.2⟩
        have hcs4 := And.intro g15 (And.intro g2 (And.intro g16 g7))
        clear hM hM2 hn e15 e2 e16 e7 f15 f2 f16 f7 g15 g2 g16 g7
        go_wp2_with fail
        replace hS := hS.drew
        refine rg_start (fun w => w.cell? ⟨wb, i15, none⟩ = some (wv x15) ∧ w.cell? ⟨wb, i2, none⟩ = some (wv x2) ∧ w.cell? ⟨wb, i16, none⟩ = some (wv x16) ∧ w.cell? ⟨wb, i7, none⟩ = some (wv x7)) [7] (by kernel_rfl) ?_
        -- P0 P1 P2 P4 P5 P6 L3 P8 L7 P9
        (refine rg_pure (v := ?v0u2) 0 rfl (by kernel_rfl) (fun _ _ _ h => h) rfl ?hy0u2 ?rest0u2; (case hy0u2 => (intro w; go_simp; try with_reducible rfl)); (try simp only [Act.put, List.setIfInBounds_toArray, List.set_cons_zero, List.set_cons_succ]))
        (refine rg_pure (v := ?v1u2) 1 rfl (by kernel_rfl) (fun _ _ _ h => h) rfl ?hy1u2 ?rest1u2; (case hy1u2 => (intro w; go_simp; try with_reducible rfl)); (try simp only [Act.put, List.setIfInBounds_toArray, List.set_cons_zero, List.set_cons_succ]))
        (refine rg_pure (v := ?v2u2) 2 rfl (by kernel_rfl) (fun _ _ _ h => h) rfl ?hy2u2 ?rest2u2; (case hy2u2 => (intro w; go_simp; try with_reducible rfl)); (try simp only [Act.put, List.setIfInBounds_toArray, List.set_cons_zero, List.set_cons_succ]))
        (refine rg_pure (v := ?v4u2) 4 rfl (by kernel_rfl) (fun _ _ _ h => h) rfl ?hy4u2 ?rest4u2; (case hy4u2 => (intro w; go_simp; try with_reducible rfl)); (try simp only [Act.put, List.setIfInBounds_toArray, List.set_cons_zero, List.set_cons_succ]))
        (refine rg_pure (v := ?v5u2) 5 rfl (by kernel_rfl) (fun _ _ _ h => h) rfl ?hy5u2 ?rest5u2; (case hy5u2 => (intro w; go_simp; try with_reducible rfl)); (try simp only [Act.put, List.setIfInBounds_toArray, List.set_cons_zero, List.set_cons_succ]))
        (refine rg_pure (v := ?v6u2) 6 rfl (by kernel_rfl) (fun _ _ _ h => h) rfl ?hy6u2 ?rest6u2; (case hy6u2 => (intro w; go_simp; try with_reducible rfl)); (try simp only [Act.put, List.setIfInBounds_toArray, List.set_cons_zero, List.set_cons_succ]))
        ((first | (refine rg_load 3 rfl (by kernel_rfl) rfl (by exact hSS hS hcs4) _ _ rfl _ _ rfl _ (fun w hS => hS.1) (fun _ _ _ h => h) ?_) | (refine rg_load 3 rfl (by kernel_rfl) rfl (by exact hSS hS hcs4) _ _ rfl _ _ rfl _ (fun w hS => hS.2.1) (fun _ _ _ h => h) ?_) | (refine rg_load 3 rfl (by kernel_rfl) rfl (by exact hSS hS hcs4) _ _ rfl _ _ rfl _ (fun w hS => hS.2.2.1) (fun _ _ _ h => h) ?_) | (refine rg_load 3 rfl (by kernel_rfl) rfl (by exact hSS hS hcs4) _ _ rfl _ _ rfl _ (fun w hS => hS.2.2.2) (fun _ _ _ h => h) ?_)); (try simp only [Act.put, List.setIfInBounds_toArray, List.set_cons_zero, List.set_cons_succ]))
        (refine rg_pure (v := ?v8u2) 8 rfl (by kernel_rfl) (fun _ _ _ h => h) rfl ?hy8u2 ?rest8u2; (case hy8u2 => (intro w; go_simp; try with_reducible rfl)); (try simp only [Act.put, List.setIfInBounds_toArray, List.set_cons_zero, List.set_cons_succ]))
        ((first | (refine rg_load 7 rfl (by kernel_rfl) rfl (by exact hSS hS hcs4) _ _ rfl _ _ rfl _ (fun w hS => hS.1) (fun _ _ _ h => h) ?_) | (refine rg_load 7 rfl (by kernel_rfl) rfl (by exact hSS hS hcs4) _ _ rfl _ _ rfl _ (fun w hS => hS.2.1) (fun _ _ _ h => h) ?_) | (refine rg_load 7 rfl (by kernel_rfl) rfl (by exact hSS hS hcs4) _ _ rfl _ _ rfl _ (fun w hS => hS.2.2.1) (fun _ _ _ h => h) ?_) | (refine rg_load 7 rfl (by kernel_rfl) rfl (by exact hSS hS hcs4) _ _ rfl _ _ rfl _ (fun w hS => hS.2.2.2) (fun _ _ _ h => h) ?_)); (try simp only [Act.put, List.setIfInBounds_toArray, List.set_cons_zero, List.set_cons_succ]))
        (refine rg_pure (v := ?v9u2) 9 rfl (by kernel_rfl) (fun _ _ _ h => h) rfl ?hy9u2 ?rest9u2; (case hy9u2 => (intro w; go_simp; try with_reducible rfl)); (try simp only [Act.put, List.setIfInBounds_toArray, List.set_cons_zero, List.set_cons_succ]))
        refine rg_done (by kernel_rfl) ?_
        go_wp2_with fail
        replace hS := hS.drew
        refine rg_start (fun w => w.cell? ⟨wb, i15, none⟩ = some (wv x15) ∧ w.cell? ⟨wb, i2, none⟩ = some (wv x2) ∧ w.cell? ⟨wb, i16, none⟩ = some (wv x16) ∧ w.cell? ⟨wb, i7, none⟩ = some (wv x7)) [8, 11, 13, 14, 17, 18, 20, 22, 23, 26, 27] (by kernel_rfl) ?_
        -- P0 P1 P2 P3 P5 P6 P7 P10 P12 P15 P16 P19 P21 P24 P25 L4 L8 P9 S11 S13 P14 P17 P18 S20 S22 P23 P26 P27 P28 S29
        (refine rg_pure (v := ?v0u3) 0 rfl (by kernel_rfl) (fun _ _ _ h => h) rfl ?hy0u3 ?rest0u3; (case hy0u3 => (intro w; go_simp; try with_reducible rfl)); (try simp only [Act.put, List.setIfInBounds_toArray, List.set_cons_zero, List.set_cons_succ]))
        (refine rg_pure (v := ?v1u3) 1 rfl (by kernel_rfl) (fun _ _ _ h => h) rfl ?hy1u3 ?rest1u3; (case hy1u3 => (intro w; go_simp; try with_reducible rfl)); (try simp only [Act.put, List.setIfInBounds_toArray, List.set_cons_zero, List.set_cons_succ]))
        (refine rg_pure (v := ?v2u3) 2 rfl (by kernel_rfl) (fun _ _ _ h => h) rfl ?hy2u3 ?rest2u3; (case hy2u3 => (intro w; go_simp; try with_reducible rfl)); (try simp only [Act.put, List.setIfInBounds_toArray, List.set_cons_zero, List.set_cons_succ]))
        (refine rg_pure (v := ?v3u3) 3 rfl (by kernel_rfl) (fun _ _ _ h => h) rfl ?hy3u3 ?rest3u3; (case hy3u3 => (intro w; go_simp; try with_reducible rfl)); (try simp only [Act.put, List.setIfInBounds_toArray, List.set_cons_zero, List.set_cons_succ]))
        (refine rg_pure (v := ?v5u3) 5 rfl (by kernel_rfl) (fun _ _ _ h => h) rfl ?hy5u3 ?rest5u3; (case hy5u3 => (intro w; go_simp; try with_reducible rfl)); (try simp only [Act.put, List.setIfInBounds_toArray, List.set_cons_zero, List.set_cons_succ]))
        (refine rg_pure (v := ?v6u3) 6 rfl (by kernel_rfl) (fun _ _ _ h => h) rfl ?hy6u3 ?rest6u3; (case hy6u3 => (intro w; go_simp; try with_reducible rfl)); (try simp only [Act.put, List.setIfInBounds_toArray, List.set_cons_zero, List.set_cons_succ]))
        (refine rg_pure (v := ?v7u3) 7 rfl (by kernel_rfl) (fun _ _ _ h => h) rfl ?hy7u3 ?rest7u3; (case hy7u3 => (intro w; go_simp; try with_reducible rfl)); (try simp only [Act.put, List.setIfInBounds_toArray, List.set_cons_zero, List.set_cons_succ]))
        (refine rg_pure (v := ?v10u3) 10 rfl (by kernel_rfl) (fun _ _ _ h => h) rfl ?hy10u3 ?rest10u3; (case hy10u3 => (intro w; go_simp; try with_reducible rfl)); (try simp only [Act.put, List.setIfInBounds_toArray, List.set_cons_zero, List.set_cons_succ]))
        (refine rg_pure (v := ?v12u3) 12 rfl (by kernel_rfl) (fun _ _ _ h => h) rfl ?hy12u3 ?rest12u3; (case hy12u3 => (intro w; go_simp; try with_reducible rfl)); (try simp only [Act.put, List.setIfInBounds_toArray, List.set_cons_zero, List.set_cons_succ]))
        (refine rg_pure (v := ?v15u3) 15 rfl (by kernel_rfl) (fun _ _ _ h => h) rfl ?hy15u3 ?rest15u3; (case hy15u3 => (intro w; go_simp; try with_reducible rfl)); (try simp only [Act.put, List.setIfInBounds_toArray, List.set_cons_zero, List.set_cons_succ]))
        (refine rg_pure (v := ?v16u3) 16 rfl (by kernel_rfl) (fun _ _ _ h => h) rfl ?hy16u3 ?rest16u3; (case hy16u3 => (intro w; go_simp; try with_reducible rfl)); (try simp only [Act.put, List.setIfInBounds_toArray, List.set_cons_zero, List.set_cons_succ]))
        (refine rg_pure (v := ?v19u3) 19 rfl (by kernel_rfl) (fun _ _ _ h => h) rfl ?hy19u3 ?rest19u3; (case hy19u3 => (intro w; go_simp; try with_reducible rfl)); (try simp only [Act.put, List.setIfInBounds_toArray, List.set_cons_zero, List.set_cons_succ]))
        (refine rg_pure (v := ?v21u3) 21 rfl (by kernel_rfl) (fun _ _ _ h => h) rfl ?hy21u3 ?rest21u3; (case hy21u3 => (intro w; go_simp; try with_reducible rfl)); (try simp only [Act.put, List.setIfInBounds_toArray, List.set_cons_zero, List.set_cons_succ]))
        (refine rg_pure (v := ?v24u3) 24 rfl (by kernel_rfl) (fun _ _ _ h => h) rfl ?hy24u3 ?rest24u3; (case hy24u3 => (intro w; go_simp; try with_reducible rfl)); (try simp only [Act.put, List.setIfInBounds_toArray, List.set_cons_zero, List.set_cons_succ]))
        (refine rg_pure (v := ?v25u3) 25 rfl (by kernel_rfl) (fun _ _ _ h => h) rfl ?hy25u3 ?rest25u3; (case hy25u3 => (intro w; go_simp; try with_reducible rfl)); (try simp only [Act.put, List.setIfInBounds_toArray, List.set_cons_zero, List.set_cons_succ]))
        ((first | (refine rg_load 4 rfl (by kernel_rfl) rfl (by first | exact hSS hS hcs4 | exact hSS hS (hset _)) _ _ rfl _ _ rfl _ (fun w hS => hS.1) (fun _ _ _ h => h) ?_) | (refine rg_load 4 rfl (by kernel_rfl) rfl (by first | exact hSS hS hcs4 | exact hSS hS (hset _)) _ _ rfl _ _ rfl _ (fun w hS => hS.2.1) (fun _ _ _ h => h) ?_) | (refine rg_load 4 rfl (by kernel_rfl) rfl (by first | exact hSS hS hcs4 | exact hSS hS (hset _)) _ _ rfl _ _ rfl _ (fun w hS => hS.2.2.1) (fun _ _ _ h => h) ?_) | (refine rg_load 4 rfl (by kernel_rfl) rfl (by first | exact hSS hS hcs4 | exact hSS hS (hset _)) _ _ rfl _ _ rfl _ (fun w hS => hS.2.2.2) (fun _ _ _ h => h) ?_)); (try simp only [Act.put, List.setIfInBounds_toArray, List.set_cons_zero, List.set_cons_succ]))
        ((first | (refine rg_load 8 rfl (by kernel_rfl) rfl (by first | exact hSS hS hcs4 | exact hSS hS (hset _)) _ _ rfl _ _ rfl _ (fun w hS => hS.1) (fun _ _ _ h => h) ?_) | (refine rg_load 8 rfl (by kernel_rfl) rfl (by first | exact hSS hS hcs4 | exact hSS hS (hset _)) _ _ rfl _ _ rfl _ (fun w hS => hS.2.1) (fun _ _ _ h => h) ?_) | (refine rg_load 8 rfl (by kernel_rfl) rfl (by first | exact hSS hS hcs4 | exact hSS hS (hset _)) _ _ rfl _ _ rfl _ (fun w hS => hS.2.2.1) (fun _ _ _ h => h) ?_) | (refine rg_load 8 rfl (by kernel_rfl) rfl (by first | exact hSS hS hcs4 | exact hSS hS (hset _)) _ _ rfl _ _ rfl _ (fun w hS => hS.2.2.2) (fun _ _ _ h => h) ?_)); (try simp only [Act.put, List.setIfInBounds_toArray, List.set_cons_zero, List.set_cons_succ]))
        (refine rg_pure (v := ?v9u3) 9 rfl (by kernel_rfl) (fun _ _ _ h => h) rfl ?hy9u3 ?rest9u3; (case hy9u3 => (intro w; go_simp; try with_reducible rfl)); (try simp only [Act.put, List.setIfInBounds_toArray, List.set_cons_zero, List.set_cons_succ]))
        (refine rg_step 11 rfl (by kernel_rfl) (fun K' hK => ?_); go_wp2_with (first | (go_at_call 121; refine (rotA_spec rfl).mono ?_; rintro e w' ⟨rfl, rfl⟩) | ((with_reducible refine gL_store ?_); refine sL_store hS rfl _ _ _ rfl _ _ rfl 0 _ _ rfl (wv (addW (addW (addW x16 x7) (xorW (xorW (rotr x15 7) (rotr x15 18)) (shrW x15 3))) (xorW (xorW (rotr x2 17) (rotr x2 19)) (shrW x2 10)))) rfl rfl (by omega) ?_; clear hS; intro w' hS; simp only [List.set_cons_zero] at hS)); (try with_reducible refine rg_back ?_); refine hK.out _ _ (fun _ => by first | exact hSS hS hcs4 | exact hSS hS (hset _)) ?_; clear hK; clear K'; (try simp only [Act.put, List.setIfInBounds_toArray, List.set_cons_zero, List.set_cons_succ]))
        (refine rg_step 13 rfl (by kernel_rfl) (fun K' hK => ?_); go_wp2_with (first | (go_at_call 121; refine (rotA_spec rfl).mono ?_; rintro e w' ⟨rfl, rfl⟩) | ((with_reducible refine gL_store ?_); refine sL_store hS rfl _ _ _ rfl _ _ rfl 0 _ _ rfl (wv (addW (addW (addW x16 x7) (xorW (xorW (rotr x15 7) (rotr x15 18)) (shrW x15 3))) (xorW (xorW (rotr x2 17) (rotr x2 19)) (shrW x2 10)))) rfl rfl (by omega) ?_; clear hS; intro w' hS; simp only [List.set_cons_zero] at hS)); (try with_reducible refine rg_back ?_); refine hK.out _ _ (fun _ => by first | exact hSS hS hcs4 | exact hSS hS (hset _)) ?_; clear hK; clear K'; (try simp only [Act.put, List.setIfInBounds_toArray, List.set_cons_zero, List.set_cons_succ]))
        (refine rg_pureS (v := ?v14u3) 14 rfl (by kernel_rfl) (fun _ _ _ h => h) rfl (by first | exact hSS hS hcs4 | exact hSS hS (hset _)) ?hy14u3 ?rest14u3; (case hy14u3 => (intro w; go_simp; try with_reducible rfl)); (try simp only [Act.put, List.setIfInBounds_toArray, List.set_cons_zero, List.set_cons_succ]))
        (refine rg_pureS (v := ?v17u3) 17 rfl (by kernel_rfl) (fun _ _ _ h => h) rfl (by first | exact hSS hS hcs4 | exact hSS hS (hset _)) ?hy17u3 ?rest17u3; (case hy17u3 => (intro w; go_simp; try with_reducible rfl)); (try simp only [Act.put, List.setIfInBounds_toArray, List.set_cons_zero, List.set_cons_succ]))
        (refine rg_pureS (v := ?v18u3) 18 rfl (by kernel_rfl) (fun _ _ _ h => h) rfl (by first | exact hSS hS hcs4 | exact hSS hS (hset _)) ?hy18u3 ?rest18u3; (case hy18u3 => (intro w; go_simp; try with_reducible rfl)); (try simp only [Act.put, List.setIfInBounds_toArray, List.set_cons_zero, List.set_cons_succ]))
        (refine rg_step 20 rfl (by kernel_rfl) (fun K' hK => ?_); go_wp2_with (first | (go_at_call 121; refine (rotA_spec rfl).mono ?_; rintro e w' ⟨rfl, rfl⟩) | ((with_reducible refine gL_store ?_); refine sL_store hS rfl _ _ _ rfl _ _ rfl 0 _ _ rfl (wv (addW (addW (addW x16 x7) (xorW (xorW (rotr x15 7) (rotr x15 18)) (shrW x15 3))) (xorW (xorW (rotr x2 17) (rotr x2 19)) (shrW x2 10)))) rfl rfl (by omega) ?_; clear hS; intro w' hS; simp only [List.set_cons_zero] at hS)); (try with_reducible refine rg_back ?_); refine hK.out _ _ (fun _ => by first | exact hSS hS hcs4 | exact hSS hS (hset _)) ?_; clear hK; clear K'; (try simp only [Act.put, List.setIfInBounds_toArray, List.set_cons_zero, List.set_cons_succ]))
        (refine rg_step 22 rfl (by kernel_rfl) (fun K' hK => ?_); go_wp2_with (first | (go_at_call 121; refine (rotA_spec rfl).mono ?_; rintro e w' ⟨rfl, rfl⟩) | ((with_reducible refine gL_store ?_); refine sL_store hS rfl _ _ _ rfl _ _ rfl 0 _ _ rfl (wv (addW (addW (addW x16 x7) (xorW (xorW (rotr x15 7) (rotr x15 18)) (shrW x15 3))) (xorW (xorW (rotr x2 17) (rotr x2 19)) (shrW x2 10)))) rfl rfl (by omega) ?_; clear hS; intro w' hS; simp only [List.set_cons_zero] at hS)); (try with_reducible refine rg_back ?_); refine hK.out _ _ (fun _ => by first | exact hSS hS hcs4 | exact hSS hS (hset _)) ?_; clear hK; clear K'; (try simp only [Act.put, List.setIfInBounds_toArray, List.set_cons_zero, List.set_cons_succ]))
        (refine rg_pureS (v := ?v23u3) 23 rfl (by kernel_rfl) (fun _ _ _ h => h) rfl (by first | exact hSS hS hcs4 | exact hSS hS (hset _)) ?hy23u3 ?rest23u3; (case hy23u3 => (intro w; go_simp; try with_reducible rfl)); (try simp only [Act.put, List.setIfInBounds_toArray, List.set_cons_zero, List.set_cons_succ]))
        (refine rg_pureS (v := ?v26u3) 26 rfl (by kernel_rfl) (fun _ _ _ h => h) rfl (by first | exact hSS hS hcs4 | exact hSS hS (hset _)) ?hy26u3 ?rest26u3; (case hy26u3 => (intro w; go_simp; try with_reducible rfl)); (try simp only [Act.put, List.setIfInBounds_toArray, List.set_cons_zero, List.set_cons_succ]))
        (refine rg_pureS (v := ?v27u3) 27 rfl (by kernel_rfl) (fun _ _ _ h => h) rfl (by first | exact hSS hS hcs4 | exact hSS hS (hset _)) ?hy27u3 ?rest27u3; (case hy27u3 => (intro w; go_simp; try with_reducible rfl)); (try simp only [Act.put, List.setIfInBounds_toArray, List.set_cons_zero, List.set_cons_succ]))
        (refine rg_pure (v := ?v28u3) 28 rfl (by kernel_rfl) (fun _ _ _ h => h) rfl ?hy28u3 ?rest28u3; (case hy28u3 => (intro w; go_simp; try with_reducible rfl)); (try simp only [Act.put, List.setIfInBounds_toArray, List.set_cons_zero, List.set_cons_succ]))
        (refine rg_step 29 rfl (by kernel_rfl) (fun K' hK => ?_); go_wp2_with (first | (go_at_call 121; refine (rotA_spec rfl).mono ?_; rintro e w' ⟨rfl, rfl⟩) | ((with_reducible refine gL_store ?_); refine sL_store hS rfl _ _ _ rfl _ _ rfl 0 _ _ rfl (wv (addW (addW (addW x16 x7) (xorW (xorW (rotr x15 7) (rotr x15 18)) (shrW x15 3))) (xorW (xorW (rotr x2 17) (rotr x2 19)) (shrW x2 10)))) rfl rfl (by omega) ?_; clear hS; intro w' hS; simp only [List.set_cons_zero] at hS)); (try with_reducible refine rg_back ?_); refine hK.out _ _ (fun h => absurd h (by decide)) ?_; clear hK; clear K'; (try simp only [Act.put, List.setIfInBounds_toArray, List.set_cons_zero, List.set_cons_succ]))
        refine rg_done (by kernel_rfl) ?_
        go_wp2_with fail
        refine ⟨⟨i + 1, _, hlt, by simp, HM2.out, hS⟩, ?_⟩
        simp [intOf]; omega
    · obtain rfl : i = 64 := by omega
      have hMW := hM
      have HMW := Lib.hid hMW
      clear hM hMW
      have hsl : (wvs s).length = 8 := by simp [wvs, hs]
      go_wp2_with fail
      have hSt : ∀ {W : World} {L0 : List Item} {w0 : World} {L : List Item} (k : Nat), L[k]? = some (sumI sp s ra rn rc m) → Nx L0 I w0 I L W → ∀ i u, (wvs s)[i]? = some u → W.cell? ⟨sp, 0 + i, none⟩ = some u :=
        fun k hk hS i u hu => by
          rw [Nat.zero_add]
          refine hS.blkCell k hk i ?_
          rw [List.getElem?_append_left (List.getElem?_eq_some_iff.1 hu).1]; exact hu
      revert hS
      apply meet2 (A := fun vb cb w' => Nx [sumI sp s ra rn rc m] I w I [.blk cb (wvs cubeL) 182, .blk vb (wvs s) 160, .blk wb cs 182, sumI sp s ra rn rc m] w')
      case hb =>
        intro hG hS
        refine rg_startN hS (fun w => ∀ i u, (wvs s)[i]? = some u → w.cell? ⟨sp, 0 + i, none⟩ = some u) [0, 1, 2, 3, 4, 5, 6, 7, 8] (by kernel_rfl) ?_; clear hS; intro w' hS
        (refine rg_pureS (v := ?v0b1x1) 0 rfl (by kernel_rfl) (fun _ _ _ h => h) rfl (by first | exact hSt 1 rfl hS | exact hSt 2 rfl hS | exact hSt 3 rfl hS) ?hy0b1x1 ?rest0b1x1; (case hy0b1x1 => (intro w; go_simp; try with_reducible rfl)); (try simp only [Act.put, List.setIfInBounds_toArray, List.set_cons_zero, List.set_cons_succ]))
        (refine rg_pureS (v := ?v1b1x2) 1 rfl (by kernel_rfl) (fun _ _ _ h => h) rfl (by first | exact hSt 1 rfl hS | exact hSt 2 rfl hS | exact hSt 3 rfl hS) ?hy1b1x2 ?rest1b1x2; (case hy1b1x2 => (intro w; go_simp; try with_reducible rfl)); (try simp only [Act.put, List.setIfInBounds_toArray, List.set_cons_zero, List.set_cons_succ]))
        (refine rg_pureS (v := ?v2b1x3) 2 rfl (by kernel_rfl) (fun _ _ _ h => h) rfl (by first | exact hSt 1 rfl hS | exact hSt 2 rfl hS | exact hSt 3 rfl hS) ?hy2b1x3 ?rest2b1x3; (case hy2b1x3 => (intro w; go_simp; try with_reducible rfl)); (try simp only [Act.put, List.setIfInBounds_toArray, List.set_cons_zero, List.set_cons_succ]))
        ((first | (refine rg_loadA 3 rfl (by kernel_rfl) rfl (by first | exact hSt 1 rfl hS | exact hSt 2 rfl hS | exact hSt 3 rfl hS) _ _ rfl _ _ rfl _ hsl (fun w hS => hS) (fun _ _ _ h => h) ?_)); (try simp only [Act.put, List.setIfInBounds_toArray, List.set_cons_zero, List.set_cons_succ]))
        refine rg_steps [4, 5, 6] (by kernel_rfl) ⟨⟨_, rfl, fun K' hK => ?_⟩, ⟨_, rfl, fun K' hK => ?_⟩, ⟨_, rfl, fun K' hK => ?_⟩, trivial⟩
        · go_wp2_with (first | (go_at_call 122; refine (cubes_spec hS.hI).mono ?_; rintro e w' ⟨rfl, hn⟩; replace hS := hS.pure0 hn; clear hn) | (refine sL_alloc hS rfl 160 rfl ?_; clear hS; intro vb w' hvb hS) | (refine sL_alloc hS rfl 182 rfl ?_; clear hS; intro cb w' hcb hS) | ((with_reducible refine gL_store ?_); (first | (refine sL_storeB hS rfl _ _ _ rfl _ rfl 0 _ _ rfl (wvs s) rfl hsl rfl (wvs_one s) ?_) | (refine sL_storeB hS rfl _ _ _ rfl _ rfl 1 _ _ rfl (wvs s) rfl hsl rfl (wvs_one s) ?_) | (refine sL_storeB hS rfl _ _ _ rfl _ rfl 0 _ _ rfl (wvs cubeL) rfl rfl rfl (wvs_one cubeL) ?_) | (refine sL_storeB hS rfl _ _ _ rfl _ rfl 1 _ _ rfl (wvs cubeL) rfl rfl rfl (wvs_one cubeL) ?_)); clear hS; intro w' hS; simp only [List.set_cons_zero, List.set_cons_succ] at hS)); (try with_reducible refine rg_back ?_); refine hK.out _ _ (fun _ => by first | exact hSt 1 rfl hS | exact hSt 2 rfl hS | exact hSt 3 rfl hS) ?_; clear hK; clear K'; (try simp only [Act.put, List.setIfInBounds_toArray, List.set_cons_zero, List.set_cons_succ])
          refine rg_steps [5, 6] (by kernel_rfl) ⟨⟨_, rfl, fun K' hK => ?_⟩, ⟨_, rfl, fun K' hK => ?_⟩, trivial⟩
          · go_wp2_with (first | (go_at_call 122; refine (cubes_spec hS.hI).mono ?_; rintro e w' ⟨rfl, hn⟩; replace hS := hS.pure0 hn; clear hn) | (refine sL_alloc hS rfl 160 rfl ?_; clear hS; intro vb w' hvb hS) | (refine sL_alloc hS rfl 182 rfl ?_; clear hS; intro cb w' hcb hS) | ((with_reducible refine gL_store ?_); (first | (refine sL_storeB hS rfl _ _ _ rfl _ rfl 0 _ _ rfl (wvs s) rfl hsl rfl (wvs_one s) ?_) | (refine sL_storeB hS rfl _ _ _ rfl _ rfl 1 _ _ rfl (wvs s) rfl hsl rfl (wvs_one s) ?_) | (refine sL_storeB hS rfl _ _ _ rfl _ rfl 0 _ _ rfl (wvs cubeL) rfl rfl rfl (wvs_one cubeL) ?_) | (refine sL_storeB hS rfl _ _ _ rfl _ rfl 1 _ _ rfl (wvs cubeL) rfl rfl rfl (wvs_one cubeL) ?_)); clear hS; intro w' hS; simp only [List.set_cons_zero, List.set_cons_succ] at hS)); (try with_reducible refine rg_back ?_); refine hK.out _ _ (fun _ => by first | exact hSt 1 rfl hS | exact hSt 2 rfl hS | exact hSt 3 rfl hS) ?_; clear hK; clear K'; (try simp only [Act.put, List.setIfInBounds_toArray, List.set_cons_zero, List.set_cons_succ])
            (refine rg_step 6 rfl (by kernel_rfl) (fun K' hK => ?_); go_wp2_with (first | (go_at_call 122; refine (cubes_spec hS.hI).mono ?_; rintro e w' ⟨rfl, hn⟩; replace hS := hS.pure0 hn; clear hn) | (refine sL_alloc hS rfl 160 rfl ?_; clear hS; intro vb w' hvb hS) | (refine sL_alloc hS rfl 182 rfl ?_; clear hS; intro cb w' hcb hS) | ((with_reducible refine gL_store ?_); (first | (refine sL_storeB hS rfl _ _ _ rfl _ rfl 0 _ _ rfl (wvs s) rfl hsl rfl (wvs_one s) ?_) | (refine sL_storeB hS rfl _ _ _ rfl _ rfl 1 _ _ rfl (wvs s) rfl hsl rfl (wvs_one s) ?_) | (refine sL_storeB hS rfl _ _ _ rfl _ rfl 0 _ _ rfl (wvs cubeL) rfl rfl rfl (wvs_one cubeL) ?_) | (refine sL_storeB hS rfl _ _ _ rfl _ rfl 1 _ _ rfl (wvs cubeL) rfl rfl rfl (wvs_one cubeL) ?_)); clear hS; intro w' hS; simp only [List.set_cons_zero, List.set_cons_succ] at hS)); (try with_reducible refine rg_back ?_); refine hK.out _ _ (fun _ => by first | exact hSt 1 rfl hS | exact hSt 2 rfl hS | exact hSt 3 rfl hS) ?_; clear hK; clear K'; (try simp only [Act.put, List.setIfInBounds_toArray, List.set_cons_zero, List.set_cons_succ]))
            (refine rg_step 7 rfl (by kernel_rfl) (fun K' hK => ?_); go_wp2_with (first | (go_at_call 122; refine (cubes_spec hS.hI).mono ?_; rintro e w' ⟨rfl, hn⟩; replace hS := hS.pure0 hn; clear hn) | (refine sL_alloc hS rfl 160 rfl ?_; clear hS; intro vb w' hvb hS) | (refine sL_alloc hS rfl 182 rfl ?_; clear hS; intro cb w' hcb hS) | ((with_reducible refine gL_store ?_); (first | (refine sL_storeB hS rfl _ _ _ rfl _ rfl 0 _ _ rfl (wvs s) rfl hsl rfl (wvs_one s) ?_) | (refine sL_storeB hS rfl _ _ _ rfl _ rfl 1 _ _ rfl (wvs s) rfl hsl rfl (wvs_one s) ?_) | (refine sL_storeB hS rfl _ _ _ rfl _ rfl 0 _ _ rfl (wvs cubeL) rfl rfl rfl (wvs_one cubeL) ?_) | (refine sL_storeB hS rfl _ _ _ rfl _ rfl 1 _ _ rfl (wvs cubeL) rfl rfl rfl (wvs_one cubeL) ?_)); clear hS; intro w' hS; simp only [List.set_cons_zero, List.set_cons_succ] at hS)); (try with_reducible refine rg_back ?_); refine hK.out _ _ (fun _ => by first | exact hSt 1 rfl hS | exact hSt 2 rfl hS | exact hSt 3 rfl hS) ?_; clear hK; clear K'; (try simp only [Act.put, List.setIfInBounds_toArray, List.set_cons_zero, List.set_cons_succ]))
            (refine rg_step 8 rfl (by kernel_rfl) (fun K' hK => ?_); go_wp2_with (first | (go_at_call 122; refine (cubes_spec hS.hI).mono ?_; rintro e w' ⟨rfl, hn⟩; replace hS := hS.pure0 hn; clear hn) | (refine sL_alloc hS rfl 160 rfl ?_; clear hS; intro vb w' hvb hS) | (refine sL_alloc hS rfl 182 rfl ?_; clear hS; intro cb w' hcb hS) | ((with_reducible refine gL_store ?_); (first | (refine sL_storeB hS rfl _ _ _ rfl _ rfl 0 _ _ rfl (wvs s) rfl hsl rfl (wvs_one s) ?_) | (refine sL_storeB hS rfl _ _ _ rfl _ rfl 1 _ _ rfl (wvs s) rfl hsl rfl (wvs_one s) ?_) | (refine sL_storeB hS rfl _ _ _ rfl _ rfl 0 _ _ rfl (wvs cubeL) rfl rfl rfl (wvs_one cubeL) ?_) | (refine sL_storeB hS rfl _ _ _ rfl _ rfl 1 _ _ rfl (wvs cubeL) rfl rfl rfl (wvs_one cubeL) ?_)); clear hS; intro w' hS; simp only [List.set_cons_zero, List.set_cons_succ] at hS)); (try with_reducible refine rg_back ?_); refine hK.out _ _ (fun _ => by first | exact hSt 1 rfl hS | exact hSt 2 rfl hS | exact hSt 3 rfl hS) ?_; clear hK; clear K'; (try simp only [Act.put, List.setIfInBounds_toArray, List.set_cons_zero, List.set_cons_succ]))
            refine rg_done (by kernel_rfl) ?_
            first | exact hG vb cb _ hS | exact hG vb cb _ hS.swap
          · go_wp2_with (first | (go_at_call 122; refine (cubes_spec hS.hI).mono ?_; rintro e w' ⟨rfl, hn⟩; replace hS := hS.pure0 hn; clear hn) | (refine sL_alloc hS rfl 160 rfl ?_; clear hS; intro vb w' hvb hS) | (refine sL_alloc hS rfl 182 rfl ?_; clear hS; intro cb w' hcb hS) | ((with_reducible refine gL_store ?_); (first | (refine sL_storeB hS rfl _ _ _ rfl _ rfl 0 _ _ rfl (wvs s) rfl hsl rfl (wvs_one s) ?_) | (refine sL_storeB hS rfl _ _ _ rfl _ rfl 1 _ _ rfl (wvs s) rfl hsl rfl (wvs_one s) ?_) | (refine sL_storeB hS rfl _ _ _ rfl _ rfl 0 _ _ rfl (wvs cubeL) rfl rfl rfl (wvs_one cubeL) ?_) | (refine sL_storeB hS rfl _ _ _ rfl _ rfl 1 _ _ rfl (wvs cubeL) rfl rfl rfl (wvs_one cubeL) ?_)); clear hS; intro w' hS; simp only [List.set_cons_zero, List.set_cons_succ] at hS)); (try with_reducible refine rg_back ?_); refine hK.out _ _ (fun _ => by first | exact hSt 1 rfl hS | exact hSt 2 rfl hS | exact hSt 3 rfl hS) ?_; clear hK; clear K'; (try simp only [Act.put, List.setIfInBounds_toArray, List.set_cons_zero, List.set_cons_succ])
            (refine rg_step 5 rfl (by kernel_rfl) (fun K' hK => ?_); go_wp2_with (first | (go_at_call 122; refine (cubes_spec hS.hI).mono ?_; rintro e w' ⟨rfl, hn⟩; replace hS := hS.pure0 hn; clear hn) | (refine sL_alloc hS rfl 160 rfl ?_; clear hS; intro vb w' hvb hS) | (refine sL_alloc hS rfl 182 rfl ?_; clear hS; intro cb w' hcb hS) | ((with_reducible refine gL_store ?_); (first | (refine sL_storeB hS rfl _ _ _ rfl _ rfl 0 _ _ rfl (wvs s) rfl hsl rfl (wvs_one s) ?_) | (refine sL_storeB hS rfl _ _ _ rfl _ rfl 1 _ _ rfl (wvs s) rfl hsl rfl (wvs_one s) ?_) | (refine sL_storeB hS rfl _ _ _ rfl _ rfl 0 _ _ rfl (wvs cubeL) rfl rfl rfl (wvs_one cubeL) ?_) | (refine sL_storeB hS rfl _ _ _ rfl _ rfl 1 _ _ rfl (wvs cubeL) rfl rfl rfl (wvs_one cubeL) ?_)); clear hS; intro w' hS; simp only [List.set_cons_zero, List.set_cons_succ] at hS)); (try with_reducible refine rg_back ?_); refine hK.out _ _ (fun _ => by first | exact hSt 1 rfl hS | exact hSt 2 rfl hS | exact hSt 3 rfl hS) ?_; clear hK; clear K'; (try simp only [Act.put, List.setIfInBounds_toArray, List.set_cons_zero, List.set_cons_succ]))
            (refine rg_step 7 rfl (by kernel_rfl) (fun K' hK => ?_); go_wp2_with (first | (go_at_call 122; refine (cubes_spec hS.hI).mono ?_; rintro e w' ⟨rfl, hn⟩; replace hS := hS.pure0 hn; clear hn) | (refine sL_alloc hS rfl 160 rfl ?_; clear hS; intro vb w' hvb hS) | (refine sL_alloc hS rfl 182 rfl ?_; clear hS; intro cb w' hcb hS) | ((with_reducible refine gL_store ?_); (first | (refine sL_storeB hS rfl _ _ _ rfl _ rfl 0 _ _ rfl (wvs s) rfl hsl rfl (wvs_one s) ?_) | (refine sL_storeB hS rfl _ _ _ rfl _ rfl 1 _ _ rfl (wvs s) rfl hsl rfl (wvs_one s) ?_) | (refine sL_storeB hS rfl _ _ _ rfl _ rfl 0 _ _ rfl (wvs cubeL) rfl rfl rfl (wvs_one cubeL) ?_) | (refine sL_storeB hS rfl _ _ _ rfl _ rfl 1 _ _ rfl (wvs cubeL) rfl rfl rfl (wvs_one cubeL) ?_)); clear hS; intro w' hS; simp only [List.set_cons_zero, List.set_cons_succ] at hS)); (try with_reducible refine rg_back ?_); refine hK.out _ _ (fun _ => by first | exact hSt 1 rfl hS | exact hSt 2 rfl hS | exact hSt 3 rfl hS) ?_; clear hK; clear K'; (try simp only [Act.put, List.setIfInBounds_toArray, List.set_cons_zero, List.set_cons_succ]))
            (refine rg_step 8 rfl (by kernel_rfl) (fun K' hK => ?_); go_wp2_with (first | (go_at_call 122; refine (cubes_spec hS.hI).mono ?_; rintro e w' ⟨rfl, hn⟩; replace hS := hS.pure0 hn; clear hn) | (refine sL_alloc hS rfl 160 rfl ?_; clear hS; intro vb w' hvb hS) | (refine sL_alloc hS rfl 182 rfl ?_; clear hS; intro cb w' hcb hS) | ((with_reducible refine gL_store ?_); (first | (refine sL_storeB hS rfl _ _ _ rfl _ rfl 0 _ _ rfl (wvs s) rfl hsl rfl (wvs_one s) ?_) | (refine sL_storeB hS rfl _ _ _ rfl _ rfl 1 _ _ rfl (wvs s) rfl hsl rfl (wvs_one s) ?_) | (refine sL_storeB hS rfl _ _ _ rfl _ rfl 0 _ _ rfl (wvs cubeL) rfl rfl rfl (wvs_one cubeL) ?_) | (refine sL_storeB hS rfl _ _ _ rfl _ rfl 1 _ _ rfl (wvs cubeL) rfl rfl rfl (wvs_one cubeL) ?_)); clear hS; intro w' hS; simp only [List.set_cons_zero, List.set_cons_succ] at hS)); (try with_reducible refine rg_back ?_); refine hK.out _ _ (fun _ => by first | exact hSt 1 rfl hS | exact hSt 2 rfl hS | exact hSt 3 rfl hS) ?_; clear hK; clear K'; (try simp only [Act.put, List.setIfInBounds_toArray, List.set_cons_zero, List.set_cons_succ]))
            refine rg_done (by kernel_rfl) ?_
            first | exact hG vb cb _ hS | exact hG vb cb _ hS.swap
        · go_wp2_with (first | (go_at_call 122; refine (cubes_spec hS.hI).mono ?_; rintro e w' ⟨rfl, hn⟩; replace hS := hS.pure0 hn; clear hn) | (refine sL_alloc hS rfl 160 rfl ?_; clear hS; intro vb w' hvb hS) | (refine sL_alloc hS rfl 182 rfl ?_; clear hS; intro cb w' hcb hS) | ((with_reducible refine gL_store ?_); (first | (refine sL_storeB hS rfl _ _ _ rfl _ rfl 0 _ _ rfl (wvs s) rfl hsl rfl (wvs_one s) ?_) | (refine sL_storeB hS rfl _ _ _ rfl _ rfl 1 _ _ rfl (wvs s) rfl hsl rfl (wvs_one s) ?_) | (refine sL_storeB hS rfl _ _ _ rfl _ rfl 0 _ _ rfl (wvs cubeL) rfl rfl rfl (wvs_one cubeL) ?_) | (refine sL_storeB hS rfl _ _ _ rfl _ rfl 1 _ _ rfl (wvs cubeL) rfl rfl rfl (wvs_one cubeL) ?_)); clear hS; intro w' hS; simp only [List.set_cons_zero, List.set_cons_succ] at hS)); (try with_reducible refine rg_back ?_); refine hK.out _ _ (fun _ => by first | exact hSt 1 rfl hS | exact hSt 2 rfl hS | exact hSt 3 rfl hS) ?_; clear hK; clear K'; (try simp only [Act.put, List.setIfInBounds_toArray, List.set_cons_zero, List.set_cons_succ])
          refine rg_steps [4, 6] (by kernel_rfl) ⟨⟨_, rfl, fun K' hK => ?_⟩, ⟨_, rfl, fun K' hK => ?_⟩, trivial⟩
          · go_wp2_with (first | (go_at_call 122; refine (cubes_spec hS.hI).mono ?_; rintro e w' ⟨rfl, hn⟩; replace hS := hS.pure0 hn; clear hn) | (refine sL_alloc hS rfl 160 rfl ?_; clear hS; intro vb w' hvb hS) | (refine sL_alloc hS rfl 182 rfl ?_; clear hS; intro cb w' hcb hS) | ((with_reducible refine gL_store ?_); (first | (refine sL_storeB hS rfl _ _ _ rfl _ rfl 0 _ _ rfl (wvs s) rfl hsl rfl (wvs_one s) ?_) | (refine sL_storeB hS rfl _ _ _ rfl _ rfl 1 _ _ rfl (wvs s) rfl hsl rfl (wvs_one s) ?_) | (refine sL_storeB hS rfl _ _ _ rfl _ rfl 0 _ _ rfl (wvs cubeL) rfl rfl rfl (wvs_one cubeL) ?_) | (refine sL_storeB hS rfl _ _ _ rfl _ rfl 1 _ _ rfl (wvs cubeL) rfl rfl rfl (wvs_one cubeL) ?_)); clear hS; intro w' hS; simp only [List.set_cons_zero, List.set_cons_succ] at hS)); (try with_reducible refine rg_back ?_); refine hK.out _ _ (fun _ => by first | exact hSt 1 rfl hS | exact hSt 2 rfl hS | exact hSt 3 rfl hS) ?_; clear hK; clear K'; (try simp only [Act.put, List.setIfInBounds_toArray, List.set_cons_zero, List.set_cons_succ])
            (refine rg_step 6 rfl (by kernel_rfl) (fun K' hK => ?_); go_wp2_with (first | (go_at_call 122; refine (cubes_spec hS.hI).mono ?_; rintro e w' ⟨rfl, hn⟩; replace hS := hS.pure0 hn; clear hn) | (refine sL_alloc hS rfl 160 rfl ?_; clear hS; intro vb w' hvb hS) | (refine sL_alloc hS rfl 182 rfl ?_; clear hS; intro cb w' hcb hS) | ((with_reducible refine gL_store ?_); (first | (refine sL_storeB hS rfl _ _ _ rfl _ rfl 0 _ _ rfl (wvs s) rfl hsl rfl (wvs_one s) ?_) | (refine sL_storeB hS rfl _ _ _ rfl _ rfl 1 _ _ rfl (wvs s) rfl hsl rfl (wvs_one s) ?_) | (refine sL_storeB hS rfl _ _ _ rfl _ rfl 0 _ _ rfl (wvs cubeL) rfl rfl rfl (wvs_one cubeL) ?_) | (refine sL_storeB hS rfl _ _ _ rfl _ rfl 1 _ _ rfl (wvs cubeL) rfl rfl rfl (wvs_one cubeL) ?_)); clear hS; intro w' hS; simp only [List.set_cons_zero, List.set_cons_succ] at hS)); (try with_reducible refine rg_back ?_); refine hK.out _ _ (fun _ => by first | exact hSt 1 rfl hS | exact hSt 2 rfl hS | exact hSt 3 rfl hS) ?_; clear hK; clear K'; (try simp only [Act.put, List.setIfInBounds_toArray, List.set_cons_zero, List.set_cons_succ]))
            (refine rg_step 7 rfl (by kernel_rfl) (fun K' hK => ?_); go_wp2_with (first | (go_at_call 122; refine (cubes_spec hS.hI).mono ?_; rintro e w' ⟨rfl, hn⟩; replace hS := hS.pure0 hn; clear hn) | (refine sL_alloc hS rfl 160 rfl ?_; clear hS; intro vb w' hvb hS) | (refine sL_alloc hS rfl 182 rfl ?_; clear hS; intro cb w' hcb hS) | ((with_reducible refine gL_store ?_); (first | (refine sL_storeB hS rfl _ _ _ rfl _ rfl 0 _ _ rfl (wvs s) rfl hsl rfl (wvs_one s) ?_) | (refine sL_storeB hS rfl _ _ _ rfl _ rfl 1 _ _ rfl (wvs s) rfl hsl rfl (wvs_one s) ?_) | (refine sL_storeB hS rfl _ _ _ rfl _ rfl 0 _ _ rfl (wvs cubeL) rfl rfl rfl (wvs_one cubeL) ?_) | (refine sL_storeB hS rfl _ _ _ rfl _ rfl 1 _ _ rfl (wvs cubeL) rfl rfl rfl (wvs_one cubeL) ?_)); clear hS; intro w' hS; simp only [List.set_cons_zero, List.set_cons_succ] at hS)); (try with_reducible refine rg_back ?_); refine hK.out _ _ (fun _ => by first | exact hSt 1 rfl hS | exact hSt 2 rfl hS | exact hSt 3 rfl hS) ?_; clear hK; clear K'; (try simp only [Act.put, List.setIfInBounds_toArray, List.set_cons_zero, List.set_cons_succ]))
            (refine rg_step 8 rfl (by kernel_rfl) (fun K' hK => ?_); go_wp2_with (first | (go_at_call 122; refine (cubes_spec hS.hI).mono ?_; rintro e w' ⟨rfl, hn⟩; replace hS := hS.pure0 hn; clear hn) | (refine sL_alloc hS rfl 160 rfl ?_; clear hS; intro vb w' hvb hS) | (refine sL_alloc hS rfl 182 rfl ?_; clear hS; intro cb w' hcb hS) | ((with_reducible refine gL_store ?_); (first | (refine sL_storeB hS rfl _ _ _ rfl _ rfl 0 _ _ rfl (wvs s) rfl hsl rfl (wvs_one s) ?_) | (refine sL_storeB hS rfl _ _ _ rfl _ rfl 1 _ _ rfl (wvs s) rfl hsl rfl (wvs_one s) ?_) | (refine sL_storeB hS rfl _ _ _ rfl _ rfl 0 _ _ rfl (wvs cubeL) rfl rfl rfl (wvs_one cubeL) ?_) | (refine sL_storeB hS rfl _ _ _ rfl _ rfl 1 _ _ rfl (wvs cubeL) rfl rfl rfl (wvs_one cubeL) ?_)); clear hS; intro w' hS; simp only [List.set_cons_zero, List.set_cons_succ] at hS)); (try with_reducible refine rg_back ?_); refine hK.out _ _ (fun _ => by first | exact hSt 1 rfl hS | exact hSt 2 rfl hS | exact hSt 3 rfl hS) ?_; clear hK; clear K'; (try simp only [Act.put, List.setIfInBounds_toArray, List.set_cons_zero, List.set_cons_succ]))
            refine rg_done (by kernel_rfl) ?_
            first | exact hG vb cb _ hS | exact hG vb cb _ hS.swap
          · go_wp2_with (first | (go_at_call 122; refine (cubes_spec hS.hI).mono ?_; rintro e w' ⟨rfl, hn⟩; replace hS := hS.pure0 hn; clear hn) | (refine sL_alloc hS rfl 160 rfl ?_; clear hS; intro vb w' hvb hS) | (refine sL_alloc hS rfl 182 rfl ?_; clear hS; intro cb w' hcb hS) | ((with_reducible refine gL_store ?_); (first | (refine sL_storeB hS rfl _ _ _ rfl _ rfl 0 _ _ rfl (wvs s) rfl hsl rfl (wvs_one s) ?_) | (refine sL_storeB hS rfl _ _ _ rfl _ rfl 1 _ _ rfl (wvs s) rfl hsl rfl (wvs_one s) ?_) | (refine sL_storeB hS rfl _ _ _ rfl _ rfl 0 _ _ rfl (wvs cubeL) rfl rfl rfl (wvs_one cubeL) ?_) | (refine sL_storeB hS rfl _ _ _ rfl _ rfl 1 _ _ rfl (wvs cubeL) rfl rfl rfl (wvs_one cubeL) ?_)); clear hS; intro w' hS; simp only [List.set_cons_zero, List.set_cons_succ] at hS)); (try with_reducible refine rg_back ?_); refine hK.out _ _ (fun _ => by first | exact hSt 1 rfl hS | exact hSt 2 rfl hS | exact hSt 3 rfl hS) ?_; clear hK; clear K'; (try simp only [Act.put, List.setIfInBounds_toArray, List.set_cons_zero, List.set_cons_succ])
            (refine rg_step 4 rfl (by kernel_rfl) (fun K' hK => ?_); go_wp2_with (first | (go_at_call 122; refine (cubes_spec hS.hI).mono ?_; rintro e w' ⟨rfl, hn⟩; replace hS := hS.pure0 hn; clear hn) | (refine sL_alloc hS rfl 160 rfl ?_; clear hS; intro vb w' hvb hS) | (refine sL_alloc hS rfl 182 rfl ?_; clear hS; intro cb w' hcb hS) | ((with_reducible refine gL_store ?_); (first | (refine sL_storeB hS rfl _ _ _ rfl _ rfl 0 _ _ rfl (wvs s) rfl hsl rfl (wvs_one s) ?_) | (refine sL_storeB hS rfl _ _ _ rfl _ rfl 1 _ _ rfl (wvs s) rfl hsl rfl (wvs_one s) ?_) | (refine sL_storeB hS rfl _ _ _ rfl _ rfl 0 _ _ rfl (wvs cubeL) rfl rfl rfl (wvs_one cubeL) ?_) | (refine sL_storeB hS rfl _ _ _ rfl _ rfl 1 _ _ rfl (wvs cubeL) rfl rfl rfl (wvs_one cubeL) ?_)); clear hS; intro w' hS; simp only [List.set_cons_zero, List.set_cons_succ] at hS)); (try with_reducible refine rg_back ?_); refine hK.out _ _ (fun _ => by first | exact hSt 1 rfl hS | exact hSt 2 rfl hS | exact hSt 3 rfl hS) ?_; clear hK; clear K'; (try simp only [Act.put, List.setIfInBounds_toArray, List.set_cons_zero, List.set_cons_succ]))
            (refine rg_step 7 rfl (by kernel_rfl) (fun K' hK => ?_); go_wp2_with (first | (go_at_call 122; refine (cubes_spec hS.hI).mono ?_; rintro e w' ⟨rfl, hn⟩; replace hS := hS.pure0 hn; clear hn) | (refine sL_alloc hS rfl 160 rfl ?_; clear hS; intro vb w' hvb hS) | (refine sL_alloc hS rfl 182 rfl ?_; clear hS; intro cb w' hcb hS) | ((with_reducible refine gL_store ?_); (first | (refine sL_storeB hS rfl _ _ _ rfl _ rfl 0 _ _ rfl (wvs s) rfl hsl rfl (wvs_one s) ?_) | (refine sL_storeB hS rfl _ _ _ rfl _ rfl 1 _ _ rfl (wvs s) rfl hsl rfl (wvs_one s) ?_) | (refine sL_storeB hS rfl _ _ _ rfl _ rfl 0 _ _ rfl (wvs cubeL) rfl rfl rfl (wvs_one cubeL) ?_) | (refine sL_storeB hS rfl _ _ _ rfl _ rfl 1 _ _ rfl (wvs cubeL) rfl rfl rfl (wvs_one cubeL) ?_)); clear hS; intro w' hS; simp only [List.set_cons_zero, List.set_cons_succ] at hS)); (try with_reducible refine rg_back ?_); refine hK.out _ _ (fun _ => by first | exact hSt 1 rfl hS | exact hSt 2 rfl hS | exact hSt 3 rfl hS) ?_; clear hK; clear K'; (try simp only [Act.put, List.setIfInBounds_toArray, List.set_cons_zero, List.set_cons_succ]))
            (refine rg_step 8 rfl (by kernel_rfl) (fun K' hK => ?_); go_wp2_with (first | (go_at_call 122; refine (cubes_spec hS.hI).mono ?_; rintro e w' ⟨rfl, hn⟩; replace hS := hS.pure0 hn; clear hn) | (refine sL_alloc hS rfl 160 rfl ?_; clear hS; intro vb w' hvb hS) | (refine sL_alloc hS rfl 182 rfl ?_; clear hS; intro cb w' hcb hS) | ((with_reducible refine gL_store ?_); (first | (refine sL_storeB hS rfl _ _ _ rfl _ rfl 0 _ _ rfl (wvs s) rfl hsl rfl (wvs_one s) ?_) | (refine sL_storeB hS rfl _ _ _ rfl _ rfl 1 _ _ rfl (wvs s) rfl hsl rfl (wvs_one s) ?_) | (refine sL_storeB hS rfl _ _ _ rfl _ rfl 0 _ _ rfl (wvs cubeL) rfl rfl rfl (wvs_one cubeL) ?_) | (refine sL_storeB hS rfl _ _ _ rfl _ rfl 1 _ _ rfl (wvs cubeL) rfl rfl rfl (wvs_one cubeL) ?_)); clear hS; intro w' hS; simp only [List.set_cons_zero, List.set_cons_succ] at hS)); (try with_reducible refine rg_back ?_); refine hK.out _ _ (fun _ => by first | exact hSt 1 rfl hS | exact hSt 2 rfl hS | exact hSt 3 rfl hS) ?_; clear hK; clear K'; (try simp only [Act.put, List.setIfInBounds_toArray, List.set_cons_zero, List.set_cons_succ]))
            refine rg_done (by kernel_rfl) ?_
            first | exact hG vb cb _ hS | exact hG vb cb _ hS.swap
        · go_wp2_with (first | (go_at_call 122; refine (cubes_spec hS.hI).mono ?_; rintro e w' ⟨rfl, hn⟩; replace hS := hS.pure0 hn; clear hn) | (refine sL_alloc hS rfl 160 rfl ?_; clear hS; intro vb w' hvb hS) | (refine sL_alloc hS rfl 182 rfl ?_; clear hS; intro cb w' hcb hS) | ((with_reducible refine gL_store ?_); (first | (refine sL_storeB hS rfl _ _ _ rfl _ rfl 0 _ _ rfl (wvs s) rfl hsl rfl (wvs_one s) ?_) | (refine sL_storeB hS rfl _ _ _ rfl _ rfl 1 _ _ rfl (wvs s) rfl hsl rfl (wvs_one s) ?_) | (refine sL_storeB hS rfl _ _ _ rfl _ rfl 0 _ _ rfl (wvs cubeL) rfl rfl rfl (wvs_one cubeL) ?_) | (refine sL_storeB hS rfl _ _ _ rfl _ rfl 1 _ _ rfl (wvs cubeL) rfl rfl rfl (wvs_one cubeL) ?_)); clear hS; intro w' hS; simp only [List.set_cons_zero, List.set_cons_succ] at hS)); (try with_reducible refine rg_back ?_); refine hK.out _ _ (fun _ => by first | exact hSt 1 rfl hS | exact hSt 2 rfl hS | exact hSt 3 rfl hS) ?_; clear hK; clear K'; (try simp only [Act.put, List.setIfInBounds_toArray, List.set_cons_zero, List.set_cons_succ])
          refine rg_steps [4, 5] (by kernel_rfl) ⟨⟨_, rfl, fun K' hK => ?_⟩, ⟨_, rfl, fun K' hK => ?_⟩, trivial⟩
          · go_wp2_with (first | (go_at_call 122; refine (cubes_spec hS.hI).mono ?_; rintro e w' ⟨rfl, hn⟩; replace hS := hS.pure0 hn; clear hn) | (refine sL_alloc hS rfl 160 rfl ?_; clear hS; intro vb w' hvb hS) | (refine sL_alloc hS rfl 182 rfl ?_; clear hS; intro cb w' hcb hS) | ((with_reducible refine gL_store ?_); (first | (refine sL_storeB hS rfl _ _ _ rfl _ rfl 0 _ _ rfl (wvs s) rfl hsl rfl (wvs_one s) ?_) | (refine sL_storeB hS rfl _ _ _ rfl _ rfl 1 _ _ rfl (wvs s) rfl hsl rfl (wvs_one s) ?_) | (refine sL_storeB hS rfl _ _ _ rfl _ rfl 0 _ _ rfl (wvs cubeL) rfl rfl rfl (wvs_one cubeL) ?_) | (refine sL_storeB hS rfl _ _ _ rfl _ rfl 1 _ _ rfl (wvs cubeL) rfl rfl rfl (wvs_one cubeL) ?_)); clear hS; intro w' hS; simp only [List.set_cons_zero, List.set_cons_succ] at hS)); (try with_reducible refine rg_back ?_); refine hK.out _ _ (fun _ => by first | exact hSt 1 rfl hS | exact hSt 2 rfl hS | exact hSt 3 rfl hS) ?_; clear hK; clear K'; (try simp only [Act.put, List.setIfInBounds_toArray, List.set_cons_zero, List.set_cons_succ])
            (refine rg_step 5 rfl (by kernel_rfl) (fun K' hK => ?_); go_wp2_with (first | (go_at_call 122; refine (cubes_spec hS.hI).mono ?_; rintro e w' ⟨rfl, hn⟩; replace hS := hS.pure0 hn; clear hn) | (refine sL_alloc hS rfl 160 rfl ?_; clear hS; intro vb w' hvb hS) | (refine sL_alloc hS rfl 182 rfl ?_; clear hS; intro cb w' hcb hS) | ((with_reducible refine gL_store ?_); (first | (refine sL_storeB hS rfl _ _ _ rfl _ rfl 0 _ _ rfl (wvs s) rfl hsl rfl (wvs_one s) ?_) | (refine sL_storeB hS rfl _ _ _ rfl _ rfl 1 _ _ rfl (wvs s) rfl hsl rfl (wvs_one s) ?_) | (refine sL_storeB hS rfl _ _ _ rfl _ rfl 0 _ _ rfl (wvs cubeL) rfl rfl rfl (wvs_one cubeL) ?_) | (refine sL_storeB hS rfl _ _ _ rfl _ rfl 1 _ _ rfl (wvs cubeL) rfl rfl rfl (wvs_one cubeL) ?_)); clear hS; intro w' hS; simp only [List.set_cons_zero, List.set_cons_succ] at hS)); (try with_reducible refine rg_back ?_); refine hK.out _ _ (fun _ => by first | exact hSt 1 rfl hS | exact hSt 2 rfl hS | exact hSt 3 rfl hS) ?_; clear hK; clear K'; (try simp only [Act.put, List.setIfInBounds_toArray, List.set_cons_zero, List.set_cons_succ]))
            (refine rg_step 7 rfl (by kernel_rfl) (fun K' hK => ?_); go_wp2_with (first | (go_at_call 122; refine (cubes_spec hS.hI).mono ?_; rintro e w' ⟨rfl, hn⟩; replace hS := hS.pure0 hn; clear hn) | (refine sL_alloc hS rfl 160 rfl ?_; clear hS; intro vb w' hvb hS) | (refine sL_alloc hS rfl 182 rfl ?_; clear hS; intro cb w' hcb hS) | ((with_reducible refine gL_store ?_); (first | (refine sL_storeB hS rfl _ _ _ rfl _ rfl 0 _ _ rfl (wvs s) rfl hsl rfl (wvs_one s) ?_) | (refine sL_storeB hS rfl _ _ _ rfl _ rfl 1 _ _ rfl (wvs s) rfl hsl rfl (wvs_one s) ?_) | (refine sL_storeB hS rfl _ _ _ rfl _ rfl 0 _ _ rfl (wvs cubeL) rfl rfl rfl (wvs_one cubeL) ?_) | (refine sL_storeB hS rfl _ _ _ rfl _ rfl 1 _ _ rfl (wvs cubeL) rfl rfl rfl (wvs_one cubeL) ?_)); clear hS; intro w' hS; simp only [List.set_cons_zero, List.set_cons_succ] at hS)); (try with_reducible refine rg_back ?_); refine hK.out _ _ (fun _ => by first | exact hSt 1 rfl hS | exact hSt 2 rfl hS | exact hSt 3 rfl hS) ?_; clear hK; clear K'; (try simp only [Act.put, List.setIfInBounds_toArray, List.set_cons_zero, List.set_cons_succ]))
            (refine rg_step 8 rfl (by kernel_rfl) (fun K' hK => ?_); go_wp2_with (first | (go_at_call 122; refine (cubes_spec hS.hI).mono ?_; rintro e w' ⟨rfl, hn⟩; replace hS := hS.pure0 hn; clear hn) | (refine sL_alloc hS rfl 160 rfl ?_; clear hS; intro vb w' hvb hS) | (refine sL_alloc hS rfl 182 rfl ?_; clear hS; intro cb w' hcb hS) | ((with_reducible refine gL_store ?_); (first | (refine sL_storeB hS rfl _ _ _ rfl _ rfl 0 _ _ rfl (wvs s) rfl hsl rfl (wvs_one s) ?_) | (refine sL_storeB hS rfl _ _ _ rfl _ rfl 1 _ _ rfl (wvs s) rfl hsl rfl (wvs_one s) ?_) | (refine sL_storeB hS rfl _ _ _ rfl _ rfl 0 _ _ rfl (wvs cubeL) rfl rfl rfl (wvs_one cubeL) ?_) | (refine sL_storeB hS rfl _ _ _ rfl _ rfl 1 _ _ rfl (wvs cubeL) rfl rfl rfl (wvs_one cubeL) ?_)); clear hS; intro w' hS; simp only [List.set_cons_zero, List.set_cons_succ] at hS)); (try with_reducible refine rg_back ?_); refine hK.out _ _ (fun _ => by first | exact hSt 1 rfl hS | exact hSt 2 rfl hS | exact hSt 3 rfl hS) ?_; clear hK; clear K'; (try simp only [Act.put, List.setIfInBounds_toArray, List.set_cons_zero, List.set_cons_succ]))
            refine rg_done (by kernel_rfl) ?_
            first | exact hG vb cb _ hS | exact hG vb cb _ hS.swap
          · go_wp2_with (first | (go_at_call 122; refine (cubes_spec hS.hI).mono ?_; rintro e w' ⟨rfl, hn⟩; replace hS := hS.pure0 hn; clear hn) | (refine sL_alloc hS rfl 160 rfl ?_; clear hS; intro vb w' hvb hS) | (refine sL_alloc hS rfl 182 rfl ?_; clear hS; intro cb w' hcb hS) | ((with_reducible refine gL_store ?_); (first | (refine sL_storeB hS rfl _ _ _ rfl _ rfl 0 _ _ rfl (wvs s) rfl hsl rfl (wvs_one s) ?_) | (refine sL_storeB hS rfl _ _ _ rfl _ rfl 1 _ _ rfl (wvs s) rfl hsl rfl (wvs_one s) ?_) | (refine sL_storeB hS rfl _ _ _ rfl _ rfl 0 _ _ rfl (wvs cubeL) rfl rfl rfl (wvs_one cubeL) ?_) | (refine sL_storeB hS rfl _ _ _ rfl _ rfl 1 _ _ rfl (wvs cubeL) rfl rfl rfl (wvs_one cubeL) ?_)); clear hS; intro w' hS; simp only [List.set_cons_zero, List.set_cons_succ] at hS)); (try with_reducible refine rg_back ?_); refine hK.out _ _ (fun _ => by first | exact hSt 1 rfl hS | exact hSt 2 rfl hS | exact hSt 3 rfl hS) ?_; clear hK; clear K'; (try simp only [Act.put, List.setIfInBounds_toArray, List.set_cons_zero, List.set_cons_succ])
            (refine rg_step 4 rfl (by kernel_rfl) (fun K' hK => ?_); go_wp2_with (first | (go_at_call 122; refine (cubes_spec hS.hI).mono ?_; rintro e w' ⟨rfl, hn⟩; replace hS := hS.pure0 hn; clear hn) | (refine sL_alloc hS rfl 160 rfl ?_; clear hS; intro vb w' hvb hS) | (refine sL_alloc hS rfl 182 rfl ?_; clear hS; intro cb w' hcb hS) | ((with_reducible refine gL_store ?_); (first | (refine sL_storeB hS rfl _ _ _ rfl _ rfl 0 _ _ rfl (wvs s) rfl hsl rfl (wvs_one s) ?_) | (refine sL_storeB hS rfl _ _ _ rfl _ rfl 1 _ _ rfl (wvs s) rfl hsl rfl (wvs_one s) ?_) | (refine sL_storeB hS rfl _ _ _ rfl _ rfl 0 _ _ rfl (wvs cubeL) rfl rfl rfl (wvs_one cubeL) ?_) | (refine sL_storeB hS rfl _ _ _ rfl _ rfl 1 _ _ rfl (wvs cubeL) rfl rfl rfl (wvs_one cubeL) ?_)); clear hS; intro w' hS; simp only [List.set_cons_zero, List.set_cons_succ] at hS)); (try with_reducible refine rg_back ?_); refine hK.out _ _ (fun _ => by first | exact hSt 1 rfl hS | exact hSt 2 rfl hS | exact hSt 3 rfl hS) ?_; clear hK; clear K'; (try simp only [Act.put, List.setIfInBounds_toArray, List.set_cons_zero, List.set_cons_succ]))
            (refine rg_step 7 rfl (by kernel_rfl) (fun K' hK => ?_); go_wp2_with (first | (go_at_call 122; refine (cubes_spec hS.hI).mono ?_; rintro e w' ⟨rfl, hn⟩; replace hS := hS.pure0 hn; clear hn) | (refine sL_alloc hS rfl 160 rfl ?_; clear hS; intro vb w' hvb hS) | (refine sL_alloc hS rfl 182 rfl ?_; clear hS; intro cb w' hcb hS) | ((with_reducible refine gL_store ?_); (first | (refine sL_storeB hS rfl _ _ _ rfl _ rfl 0 _ _ rfl (wvs s) rfl hsl rfl (wvs_one s) ?_) | (refine sL_storeB hS rfl _ _ _ rfl _ rfl 1 _ _ rfl (wvs s) rfl hsl rfl (wvs_one s) ?_) | (refine sL_storeB hS rfl _ _ _ rfl _ rfl 0 _ _ rfl (wvs cubeL) rfl rfl rfl (wvs_one cubeL) ?_) | (refine sL_storeB hS rfl _ _ _ rfl _ rfl 1 _ _ rfl (wvs cubeL) rfl rfl rfl (wvs_one cubeL) ?_)); clear hS; intro w' hS; simp only [List.set_cons_zero, List.set_cons_succ] at hS)); (try with_reducible refine rg_back ?_); refine hK.out _ _ (fun _ => by first | exact hSt 1 rfl hS | exact hSt 2 rfl hS | exact hSt 3 rfl hS) ?_; clear hK; clear K'; (try simp only [Act.put, List.setIfInBounds_toArray, List.set_cons_zero, List.set_cons_succ]))
            (refine rg_step 8 rfl (by kernel_rfl) (fun K' hK => ?_); go_wp2_with (first | (go_at_call 122; refine (cubes_spec hS.hI).mono ?_; rintro e w' ⟨rfl, hn⟩; replace hS := hS.pure0 hn; clear hn) | (refine sL_alloc hS rfl 160 rfl ?_; clear hS; intro vb w' hvb hS) | (refine sL_alloc hS rfl 182 rfl ?_; clear hS; intro cb w' hcb hS) | ((with_reducible refine gL_store ?_); (first | (refine sL_storeB hS rfl _ _ _ rfl _ rfl 0 _ _ rfl (wvs s) rfl hsl rfl (wvs_one s) ?_) | (refine sL_storeB hS rfl _ _ _ rfl _ rfl 1 _ _ rfl (wvs s) rfl hsl rfl (wvs_one s) ?_) | (refine sL_storeB hS rfl _ _ _ rfl _ rfl 0 _ _ rfl (wvs cubeL) rfl rfl rfl (wvs_one cubeL) ?_) | (refine sL_storeB hS rfl _ _ _ rfl _ rfl 1 _ _ rfl (wvs cubeL) rfl rfl rfl (wvs_one cubeL) ?_)); clear hS; intro w' hS; simp only [List.set_cons_zero, List.set_cons_succ] at hS)); (try with_reducible refine rg_back ?_); refine hK.out _ _ (fun _ => by first | exact hSt 1 rfl hS | exact hSt 2 rfl hS | exact hSt 3 rfl hS) ?_; clear hK; clear K'; (try simp only [Act.put, List.setIfInBounds_toArray, List.set_cons_zero, List.set_cons_succ]))
            refine rg_done (by kernel_rfl) ?_
            first | exact hG vb cb _ hS | exact hG vb cb _ hS.swap
      case hc =>
        intro vb cb w' hS
        clear hSt
        go_wp2_with fail
        go_loopw [71] (fun v71 wr => ∃ i, i ≤ 64 ∧ v71 = .int .i64 (i : Nat) ∧ Nx [sumI sp s ra rn rc m] I w I [.blk cb (wvs cubeL) 182, .blk vb (wvs (rndS s l i)) 160, .blk wb cs 182, sumI sp s ra rn rc m] wr) (fun v71 _ => 64 - (intOf v71).toNat)
        case atStart => exact ⟨0, by omega, rfl, by rw [rndS_zero]; exact hS⟩
        case round =>
          clear hS
          obtain ⟨i, hi, rfl, hS⟩ := hrel
          by_cases hlt : i < 64
          · have hk := wvs_get cubeL i hlt
            have hw := HMW.out.2 i hlt
            have hcl : (wvs cubeL).length = 64 := rfl
            have hwl := HMW.out.1
            have hr := rndS_succ s l i
            obtain ⟨a, b, c', d, e, f, g, z, hv⟩ := eight (by rw [rndS_len, hs] : (rndS s l i).length = 8)
            rw [hv] at hS hr
            generalize cubeL.getD i 0 = k at hk hr
            generalize schG l i = q at hw hr
            rw [roundW_eq] at hr
            have Hr := Lib.hid hr
            clear hr hv
            go_wp2_with fail
            replace hS := hS.drew
            refine rg_start (fun w => w.cell? ⟨vb, 0, none⟩ = some (wv a) ∧ w.cell? ⟨vb, 4, none⟩ = some (wv e)) [3] (by kernel_rfl) ?_
            -- P0 P2 L1 P4 L3 P5
            (refine rg_pure (v := ?v0u4) 0 rfl (by kernel_rfl) (fun _ _ _ h => h) rfl ?hy0u4 ?rest0u4; (case hy0u4 => (intro w; go_simp; try with_reducible rfl)); (try simp only [Act.put, List.setIfInBounds_toArray, List.set_cons_zero, List.set_cons_succ]))
            (refine rg_pure (v := ?v2u4) 2 rfl (by kernel_rfl) (fun _ _ _ h => h) rfl ?hy2u4 ?rest2u4; (case hy2u4 => (intro w; go_simp; try with_reducible rfl)); (try simp only [Act.put, List.setIfInBounds_toArray, List.set_cons_zero, List.set_cons_succ]))
            ((first | (refine rg_load 1 rfl (by kernel_rfl) rfl (by exact ⟨hS.blkCell 1 rfl 0 rfl, hS.blkCell 1 rfl 4 rfl⟩) _ _ rfl _ _ rfl _ (fun w hS => hS.1) (fun _ _ _ h => h) ?_) | (refine rg_load 1 rfl (by kernel_rfl) rfl (by exact ⟨hS.blkCell 1 rfl 0 rfl, hS.blkCell 1 rfl 4 rfl⟩) _ _ rfl _ _ rfl _ (fun w hS => hS.2) (fun _ _ _ h => h) ?_)); (try simp only [Act.put, List.setIfInBounds_toArray, List.set_cons_zero, List.set_cons_succ]))
            (refine rg_pure (v := ?v4u4) 4 rfl (by kernel_rfl) (fun _ _ _ h => h) rfl ?hy4u4 ?rest4u4; (case hy4u4 => (intro w; go_simp; try with_reducible rfl)); (try simp only [Act.put, List.setIfInBounds_toArray, List.set_cons_zero, List.set_cons_succ]))
            ((first | (refine rg_load 3 rfl (by kernel_rfl) rfl (by exact ⟨hS.blkCell 1 rfl 0 rfl, hS.blkCell 1 rfl 4 rfl⟩) _ _ rfl _ _ rfl _ (fun w hS => hS.1) (fun _ _ _ h => h) ?_) | (refine rg_load 3 rfl (by kernel_rfl) rfl (by exact ⟨hS.blkCell 1 rfl 0 rfl, hS.blkCell 1 rfl 4 rfl⟩) _ _ rfl _ _ rfl _ (fun w hS => hS.2) (fun _ _ _ h => h) ?_)); (try simp only [Act.put, List.setIfInBounds_toArray, List.set_cons_zero, List.set_cons_succ]))
            (refine rg_pure (v := ?v5u4) 5 rfl (by kernel_rfl) (fun _ _ _ h => h) rfl ?hy5u4 ?rest5u4; (case hy5u4 => (intro w; go_simp; try with_reducible rfl)); (try simp only [Act.put, List.setIfInBounds_toArray, List.set_cons_zero, List.set_cons_succ]))
            refine rg_done (by kernel_rfl) ?_
            go_wp2_with fail
            replace hS := hS.drew
            refine rg_start (fun w => w.cell? ⟨vb, 7, none⟩ = some (wv z) ∧ w.cell? ⟨vb, 5, none⟩ = some (wv f) ∧ w.cell? ⟨vb, 6, none⟩ = some (wv g) ∧ w.cell? ⟨cb, i, none⟩ = some (wv k) ∧ w.cell? ⟨wb, i, none⟩ = some (wv q)) [3, 5, 6, 8, 9, 10, 13, 14, 18, 19, 20, 21, 24, 25, 28, 29] (by kernel_rfl) ?_
            -- P0 P2 P4 P7 P11 P12 P15 P16 P17 P22 P23 P26 P27 L1 L13 P14 L18 P19 P20 L24 L28 S3 S5 P6 S8 P9 P10 P21 P25 P29 P30
            (refine rg_pure (v := ?v0u5) 0 rfl (by kernel_rfl) (fun _ _ _ h => h) rfl ?hy0u5 ?rest0u5; (case hy0u5 => (intro w; go_simp; try with_reducible rfl)); (try simp only [Act.put, List.setIfInBounds_toArray, List.set_cons_zero, List.set_cons_succ]))
            (refine rg_pure (v := ?v2u5) 2 rfl (by kernel_rfl) (fun _ _ _ h => h) rfl ?hy2u5 ?rest2u5; (case hy2u5 => (intro w; go_simp; try with_reducible rfl)); (try simp only [Act.put, List.setIfInBounds_toArray, List.set_cons_zero, List.set_cons_succ]))
            (refine rg_pure (v := ?v4u5) 4 rfl (by kernel_rfl) (fun _ _ _ h => h) rfl ?hy4u5 ?rest4u5; (case hy4u5 => (intro w; go_simp; try with_reducible rfl)); (try simp only [Act.put, List.setIfInBounds_toArray, List.set_cons_zero, List.set_cons_succ]))
            (refine rg_pure (v := ?v7u5) 7 rfl (by kernel_rfl) (fun _ _ _ h => h) rfl ?hy7u5 ?rest7u5; (case hy7u5 => (intro w; go_simp; try with_reducible rfl)); (try simp only [Act.put, List.setIfInBounds_toArray, List.set_cons_zero, List.set_cons_succ]))
            (refine rg_pure (v := ?v11u5) 11 rfl (by kernel_rfl) (fun _ _ _ h => h) rfl ?hy11u5 ?rest11u5; (case hy11u5 => (intro w; go_simp; try with_reducible rfl)); (try simp only [Act.put, List.setIfInBounds_toArray, List.set_cons_zero, List.set_cons_succ]))
            (refine rg_pure (v := ?v12u5) 12 rfl (by kernel_rfl) (fun _ _ _ h => h) rfl ?hy12u5 ?rest12u5; (case hy12u5 => (intro w; go_simp; try with_reducible rfl)); (try simp only [Act.put, List.setIfInBounds_toArray, List.set_cons_zero, List.set_cons_succ]))
            (refine rg_pure (v := ?v15u5) 15 rfl (by kernel_rfl) (fun _ _ _ h => h) rfl ?hy15u5 ?rest15u5; (case hy15u5 => (intro w; go_simp; try with_reducible rfl)); (try simp only [Act.put, List.setIfInBounds_toArray, List.set_cons_zero, List.set_cons_succ]))
            (refine rg_pure (v := ?v16u5) 16 rfl (by kernel_rfl) (fun _ _ _ h => h) rfl ?hy16u5 ?rest16u5; (case hy16u5 => (intro w; go_simp; try with_reducible rfl)); (try simp only [Act.put, List.setIfInBounds_toArray, List.set_cons_zero, List.set_cons_succ]))
            (refine rg_pure (v := ?v17u5) 17 rfl (by kernel_rfl) (fun _ _ _ h => h) rfl ?hy17u5 ?rest17u5; (case hy17u5 => (intro w; go_simp; try with_reducible rfl)); (try simp only [Act.put, List.setIfInBounds_toArray, List.set_cons_zero, List.set_cons_succ]))
            (refine rg_pure (v := ?v22u5) 22 rfl (by kernel_rfl) (fun _ _ _ h => h) rfl ?hy22u5 ?rest22u5; (case hy22u5 => (intro w; go_simp; try with_reducible rfl)); (try simp only [Act.put, List.setIfInBounds_toArray, List.set_cons_zero, List.set_cons_succ]))
            (refine rg_pure (v := ?v23u5) 23 rfl (by kernel_rfl) (fun _ _ _ h => h) rfl ?hy23u5 ?rest23u5; (case hy23u5 => (intro w; go_simp; try with_reducible rfl)); (try simp only [Act.put, List.setIfInBounds_toArray, List.set_cons_zero, List.set_cons_succ]))
            (refine rg_pure (v := ?v26u5) 26 rfl (by kernel_rfl) (fun _ _ _ h => h) rfl ?hy26u5 ?rest26u5; (case hy26u5 => (intro w; go_simp; try with_reducible rfl)); (try simp only [Act.put, List.setIfInBounds_toArray, List.set_cons_zero, List.set_cons_succ]))
            (refine rg_pure (v := ?v27u5) 27 rfl (by kernel_rfl) (fun _ _ _ h => h) rfl ?hy27u5 ?rest27u5; (case hy27u5 => (intro w; go_simp; try with_reducible rfl)); (try simp only [Act.put, List.setIfInBounds_toArray, List.set_cons_zero, List.set_cons_succ]))
            ((first | (refine rg_load 1 rfl (by kernel_rfl) rfl (by exact ⟨hS.blkCell 1 rfl 7 rfl, hS.blkCell 1 rfl 5 rfl, hS.blkCell 1 rfl 6 rfl, hS.blkCell 0 rfl i hk, hS.blkCell 2 rfl i hw⟩) _ _ rfl _ _ rfl _ (fun w hS => hS.1) (fun _ _ _ h => h) ?_) | (refine rg_load 1 rfl (by kernel_rfl) rfl (by exact ⟨hS.blkCell 1 rfl 7 rfl, hS.blkCell 1 rfl 5 rfl, hS.blkCell 1 rfl 6 rfl, hS.blkCell 0 rfl i hk, hS.blkCell 2 rfl i hw⟩) _ _ rfl _ _ rfl _ (fun w hS => hS.2.1) (fun _ _ _ h => h) ?_) | (refine rg_load 1 rfl (by kernel_rfl) rfl (by exact ⟨hS.blkCell 1 rfl 7 rfl, hS.blkCell 1 rfl 5 rfl, hS.blkCell 1 rfl 6 rfl, hS.blkCell 0 rfl i hk, hS.blkCell 2 rfl i hw⟩) _ _ rfl _ _ rfl _ (fun w hS => hS.2.2.1) (fun _ _ _ h => h) ?_) | (refine rg_load 1 rfl (by kernel_rfl) rfl (by exact ⟨hS.blkCell 1 rfl 7 rfl, hS.blkCell 1 rfl 5 rfl, hS.blkCell 1 rfl 6 rfl, hS.blkCell 0 rfl i hk, hS.blkCell 2 rfl i hw⟩) _ _ rfl _ _ rfl _ (fun w hS => hS.2.2.2.1) (fun _ _ _ h => h) ?_) | (refine rg_load 1 rfl (by kernel_rfl) rfl (by exact ⟨hS.blkCell 1 rfl 7 rfl, hS.blkCell 1 rfl 5 rfl, hS.blkCell 1 rfl 6 rfl, hS.blkCell 0 rfl i hk, hS.blkCell 2 rfl i hw⟩) _ _ rfl _ _ rfl _ (fun w hS => hS.2.2.2.2) (fun _ _ _ h => h) ?_)); (try simp only [Act.put, List.setIfInBounds_toArray, List.set_cons_zero, List.set_cons_succ]))
            ((first | (refine rg_load 13 rfl (by kernel_rfl) rfl (by exact ⟨hS.blkCell 1 rfl 7 rfl, hS.blkCell 1 rfl 5 rfl, hS.blkCell 1 rfl 6 rfl, hS.blkCell 0 rfl i hk, hS.blkCell 2 rfl i hw⟩) _ _ rfl _ _ rfl _ (fun w hS => hS.1) (fun _ _ _ h => h) ?_) | (refine rg_load 13 rfl (by kernel_rfl) rfl (by exact ⟨hS.blkCell 1 rfl 7 rfl, hS.blkCell 1 rfl 5 rfl, hS.blkCell 1 rfl 6 rfl, hS.blkCell 0 rfl i hk, hS.blkCell 2 rfl i hw⟩) _ _ rfl _ _ rfl _ (fun w hS => hS.2.1) (fun _ _ _ h => h) ?_) | (refine rg_load 13 rfl (by kernel_rfl) rfl (by exact ⟨hS.blkCell 1 rfl 7 rfl, hS.blkCell 1 rfl 5 rfl, hS.blkCell 1 rfl 6 rfl, hS.blkCell 0 rfl i hk, hS.blkCell 2 rfl i hw⟩) _ _ rfl _ _ rfl _ (fun w hS => hS.2.2.1) (fun _ _ _ h => h) ?_) | (refine rg_load 13 rfl (by kernel_rfl) rfl (by exact ⟨hS.blkCell 1 rfl 7 rfl, hS.blkCell 1 rfl 5 rfl, hS.blkCell 1 rfl 6 rfl, hS.blkCell 0 rfl i hk, hS.blkCell 2 rfl i hw⟩) _ _ rfl _ _ rfl _ (fun w hS => hS.2.2.2.1) (fun _ _ _ h => h) ?_) | (refine rg_load 13 rfl (by kernel_rfl) rfl (by exact ⟨hS.blkCell 1 rfl 7 rfl, hS.blkCell 1 rfl 5 rfl, hS.blkCell 1 rfl 6 rfl, hS.blkCell 0 rfl i hk, hS.blkCell 2 rfl i hw⟩) _ _ rfl _ _ rfl _ (fun w hS => hS.2.2.2.2) (fun _ _ _ h => h) ?_)); (try simp only [Act.put, List.setIfInBounds_toArray, List.set_cons_zero, List.set_cons_succ]))
            (refine rg_pureS (v := ?v14u5) 14 rfl (by kernel_rfl) (fun _ _ _ h => h) rfl (by exact ⟨hS.blkCell 1 rfl 7 rfl, hS.blkCell 1 rfl 5 rfl, hS.blkCell 1 rfl 6 rfl, hS.blkCell 0 rfl i hk, hS.blkCell 2 rfl i hw⟩) ?hy14u5 ?rest14u5; (case hy14u5 => (intro w; go_simp; try with_reducible rfl)); (try simp only [Act.put, List.setIfInBounds_toArray, List.set_cons_zero, List.set_cons_succ]))
            ((first | (refine rg_load 18 rfl (by kernel_rfl) rfl (by exact ⟨hS.blkCell 1 rfl 7 rfl, hS.blkCell 1 rfl 5 rfl, hS.blkCell 1 rfl 6 rfl, hS.blkCell 0 rfl i hk, hS.blkCell 2 rfl i hw⟩) _ _ rfl _ _ rfl _ (fun w hS => hS.1) (fun _ _ _ h => h) ?_) | (refine rg_load 18 rfl (by kernel_rfl) rfl (by exact ⟨hS.blkCell 1 rfl 7 rfl, hS.blkCell 1 rfl 5 rfl, hS.blkCell 1 rfl 6 rfl, hS.blkCell 0 rfl i hk, hS.blkCell 2 rfl i hw⟩) _ _ rfl _ _ rfl _ (fun w hS => hS.2.1) (fun _ _ _ h => h) ?_) | (refine rg_load 18 rfl (by kernel_rfl) rfl (by exact ⟨hS.blkCell 1 rfl 7 rfl, hS.blkCell 1 rfl 5 rfl, hS.blkCell 1 rfl 6 rfl, hS.blkCell 0 rfl i hk, hS.blkCell 2 rfl i hw⟩) _ _ rfl _ _ rfl _ (fun w hS => hS.2.2.1) (fun _ _ _ h => h) ?_) | (refine rg_load 18 rfl (by kernel_rfl) rfl (by exact ⟨hS.blkCell 1 rfl 7 rfl, hS.blkCell 1 rfl 5 rfl, hS.blkCell 1 rfl 6 rfl, hS.blkCell 0 rfl i hk, hS.blkCell 2 rfl i hw⟩) _ _ rfl _ _ rfl _ (fun w hS => hS.2.2.2.1) (fun _ _ _ h => h) ?_) | (refine rg_load 18 rfl (by kernel_rfl) rfl (by exact ⟨hS.blkCell 1 rfl 7 rfl, hS.blkCell 1 rfl 5 rfl, hS.blkCell 1 rfl 6 rfl, hS.blkCell 0 rfl i hk, hS.blkCell 2 rfl i hw⟩) _ _ rfl _ _ rfl _ (fun w hS => hS.2.2.2.2) (fun _ _ _ h => h) ?_)); (try simp only [Act.put, List.setIfInBounds_toArray, List.set_cons_zero, List.set_cons_succ]))
            (refine rg_pureS (v := ?v19u5) 19 rfl (by kernel_rfl) (fun _ _ _ h => h) rfl (by exact ⟨hS.blkCell 1 rfl 7 rfl, hS.blkCell 1 rfl 5 rfl, hS.blkCell 1 rfl 6 rfl, hS.blkCell 0 rfl i hk, hS.blkCell 2 rfl i hw⟩) ?hy19u5 ?rest19u5; (case hy19u5 => (intro w; go_simp; try with_reducible rfl)); (try simp only [Act.put, List.setIfInBounds_toArray, List.set_cons_zero, List.set_cons_succ]))
            (refine rg_pureS (v := ?v20u5) 20 rfl (by kernel_rfl) (fun _ _ _ h => h) rfl (by exact ⟨hS.blkCell 1 rfl 7 rfl, hS.blkCell 1 rfl 5 rfl, hS.blkCell 1 rfl 6 rfl, hS.blkCell 0 rfl i hk, hS.blkCell 2 rfl i hw⟩) ?hy20u5 ?rest20u5; (case hy20u5 => (intro w; go_simp; try with_reducible rfl)); (try simp only [Act.put, List.setIfInBounds_toArray, List.set_cons_zero, List.set_cons_succ]))
            ((first | (refine rg_load 24 rfl (by kernel_rfl) rfl (by exact ⟨hS.blkCell 1 rfl 7 rfl, hS.blkCell 1 rfl 5 rfl, hS.blkCell 1 rfl 6 rfl, hS.blkCell 0 rfl i hk, hS.blkCell 2 rfl i hw⟩) _ _ rfl _ _ rfl _ (fun w hS => hS.1) (fun _ _ _ h => h) ?_) | (refine rg_load 24 rfl (by kernel_rfl) rfl (by exact ⟨hS.blkCell 1 rfl 7 rfl, hS.blkCell 1 rfl 5 rfl, hS.blkCell 1 rfl 6 rfl, hS.blkCell 0 rfl i hk, hS.blkCell 2 rfl i hw⟩) _ _ rfl _ _ rfl _ (fun w hS => hS.2.1) (fun _ _ _ h => h) ?_) | (refine rg_load 24 rfl (by kernel_rfl) rfl (by exact ⟨hS.blkCell 1 rfl 7 rfl, hS.blkCell 1 rfl 5 rfl, hS.blkCell 1 rfl 6 rfl, hS.blkCell 0 rfl i hk, hS.blkCell 2 rfl i hw⟩) _ _ rfl _ _ rfl _ (fun w hS => hS.2.2.1) (fun _ _ _ h => h) ?_) | (refine rg_load 24 rfl (by kernel_rfl) rfl (by exact ⟨hS.blkCell 1 rfl 7 rfl, hS.blkCell 1 rfl 5 rfl, hS.blkCell 1 rfl 6 rfl, hS.blkCell 0 rfl i hk, hS.blkCell 2 rfl i hw⟩) _ _ rfl _ _ rfl _ (fun w hS => hS.2.2.2.1) (fun _ _ _ h => h) ?_) | (refine rg_load 24 rfl (by kernel_rfl) rfl (by exact ⟨hS.blkCell 1 rfl 7 rfl, hS.blkCell 1 rfl 5 rfl, hS.blkCell 1 rfl 6 rfl, hS.blkCell 0 rfl i hk, hS.blkCell 2 rfl i hw⟩) _ _ rfl _ _ rfl _ (fun w hS => hS.2.2.2.2) (fun _ _ _ h => h) ?_)); (try simp only [Act.put, List.setIfInBounds_toArray, List.set_cons_zero, List.set_cons_succ]))
            ((first | (refine rg_load 28 rfl (by kernel_rfl) rfl (by exact ⟨hS.blkCell 1 rfl 7 rfl, hS.blkCell 1 rfl 5 rfl, hS.blkCell 1 rfl 6 rfl, hS.blkCell 0 rfl i hk, hS.blkCell 2 rfl i hw⟩) _ _ rfl _ _ rfl _ (fun w hS => hS.1) (fun _ _ _ h => h) ?_) | (refine rg_load 28 rfl (by kernel_rfl) rfl (by exact ⟨hS.blkCell 1 rfl 7 rfl, hS.blkCell 1 rfl 5 rfl, hS.blkCell 1 rfl 6 rfl, hS.blkCell 0 rfl i hk, hS.blkCell 2 rfl i hw⟩) _ _ rfl _ _ rfl _ (fun w hS => hS.2.1) (fun _ _ _ h => h) ?_) | (refine rg_load 28 rfl (by kernel_rfl) rfl (by exact ⟨hS.blkCell 1 rfl 7 rfl, hS.blkCell 1 rfl 5 rfl, hS.blkCell 1 rfl 6 rfl, hS.blkCell 0 rfl i hk, hS.blkCell 2 rfl i hw⟩) _ _ rfl _ _ rfl _ (fun w hS => hS.2.2.1) (fun _ _ _ h => h) ?_) | (refine rg_load 28 rfl (by kernel_rfl) rfl (by exact ⟨hS.blkCell 1 rfl 7 rfl, hS.blkCell 1 rfl 5 rfl, hS.blkCell 1 rfl 6 rfl, hS.blkCell 0 rfl i hk, hS.blkCell 2 rfl i hw⟩) _ _ rfl _ _ rfl _ (fun w hS => hS.2.2.2.1) (fun _ _ _ h => h) ?_) | (refine rg_load 28 rfl (by kernel_rfl) rfl (by exact ⟨hS.blkCell 1 rfl 7 rfl, hS.blkCell 1 rfl 5 rfl, hS.blkCell 1 rfl 6 rfl, hS.blkCell 0 rfl i hk, hS.blkCell 2 rfl i hw⟩) _ _ rfl _ _ rfl _ (fun w hS => hS.2.2.2.2) (fun _ _ _ h => h) ?_)); (try simp only [Act.put, List.setIfInBounds_toArray, List.set_cons_zero, List.set_cons_succ]))
            (refine rg_step 3 rfl (by kernel_rfl) (fun K' hK => ?_); go_wp2_with (first | (go_at_call 121; refine (rotA_spec rfl).mono ?_; rintro e w' ⟨rfl, rfl⟩)); (try with_reducible refine rg_back ?_); refine hK.out _ _ (fun _ => by exact ⟨hS.blkCell 1 rfl 7 rfl, hS.blkCell 1 rfl 5 rfl, hS.blkCell 1 rfl 6 rfl, hS.blkCell 0 rfl i hk, hS.blkCell 2 rfl i hw⟩) ?_; clear hK; clear K'; (try simp only [Act.put, List.setIfInBounds_toArray, List.set_cons_zero, List.set_cons_succ]))
            (refine rg_step 5 rfl (by kernel_rfl) (fun K' hK => ?_); go_wp2_with (first | (go_at_call 121; refine (rotA_spec rfl).mono ?_; rintro e w' ⟨rfl, rfl⟩)); (try with_reducible refine rg_back ?_); refine hK.out _ _ (fun _ => by exact ⟨hS.blkCell 1 rfl 7 rfl, hS.blkCell 1 rfl 5 rfl, hS.blkCell 1 rfl 6 rfl, hS.blkCell 0 rfl i hk, hS.blkCell 2 rfl i hw⟩) ?_; clear hK; clear K'; (try simp only [Act.put, List.setIfInBounds_toArray, List.set_cons_zero, List.set_cons_succ]))
            (refine rg_pureS (v := ?v6u5) 6 rfl (by kernel_rfl) (fun _ _ _ h => h) rfl (by exact ⟨hS.blkCell 1 rfl 7 rfl, hS.blkCell 1 rfl 5 rfl, hS.blkCell 1 rfl 6 rfl, hS.blkCell 0 rfl i hk, hS.blkCell 2 rfl i hw⟩) ?hy6u5 ?rest6u5; (case hy6u5 => (intro w; go_simp; try with_reducible rfl)); (try simp only [Act.put, List.setIfInBounds_toArray, List.set_cons_zero, List.set_cons_succ]))
            (refine rg_step 8 rfl (by kernel_rfl) (fun K' hK => ?_); go_wp2_with (first | (go_at_call 121; refine (rotA_spec rfl).mono ?_; rintro e w' ⟨rfl, rfl⟩)); (try with_reducible refine rg_back ?_); refine hK.out _ _ (fun _ => by exact ⟨hS.blkCell 1 rfl 7 rfl, hS.blkCell 1 rfl 5 rfl, hS.blkCell 1 rfl 6 rfl, hS.blkCell 0 rfl i hk, hS.blkCell 2 rfl i hw⟩) ?_; clear hK; clear K'; (try simp only [Act.put, List.setIfInBounds_toArray, List.set_cons_zero, List.set_cons_succ]))
            (refine rg_pureS (v := ?v9u5) 9 rfl (by kernel_rfl) (fun _ _ _ h => h) rfl (by exact ⟨hS.blkCell 1 rfl 7 rfl, hS.blkCell 1 rfl 5 rfl, hS.blkCell 1 rfl 6 rfl, hS.blkCell 0 rfl i hk, hS.blkCell 2 rfl i hw⟩) ?hy9u5 ?rest9u5; (case hy9u5 => (intro w; go_simp; try with_reducible rfl)); (try simp only [Act.put, List.setIfInBounds_toArray, List.set_cons_zero, List.set_cons_succ]))
            (refine rg_pureS (v := ?v10u5) 10 rfl (by kernel_rfl) (fun _ _ _ h => h) rfl (by exact ⟨hS.blkCell 1 rfl 7 rfl, hS.blkCell 1 rfl 5 rfl, hS.blkCell 1 rfl 6 rfl, hS.blkCell 0 rfl i hk, hS.blkCell 2 rfl i hw⟩) ?hy10u5 ?rest10u5; (case hy10u5 => (intro w; go_simp; try with_reducible rfl)); (try simp only [Act.put, List.setIfInBounds_toArray, List.set_cons_zero, List.set_cons_succ]))
            (refine rg_pureS (v := ?v21u5) 21 rfl (by kernel_rfl) (fun _ _ _ h => h) rfl (by exact ⟨hS.blkCell 1 rfl 7 rfl, hS.blkCell 1 rfl 5 rfl, hS.blkCell 1 rfl 6 rfl, hS.blkCell 0 rfl i hk, hS.blkCell 2 rfl i hw⟩) ?hy21u5 ?rest21u5; (case hy21u5 => (intro w; go_simp; try with_reducible rfl)); (try simp only [Act.put, List.setIfInBounds_toArray, List.set_cons_zero, List.set_cons_succ]))
            (refine rg_pureS (v := ?v25u5) 25 rfl (by kernel_rfl) (fun _ _ _ h => h) rfl (by exact ⟨hS.blkCell 1 rfl 7 rfl, hS.blkCell 1 rfl 5 rfl, hS.blkCell 1 rfl 6 rfl, hS.blkCell 0 rfl i hk, hS.blkCell 2 rfl i hw⟩) ?hy25u5 ?rest25u5; (case hy25u5 => (intro w; go_simp; try with_reducible rfl)); (try simp only [Act.put, List.setIfInBounds_toArray, List.set_cons_zero, List.set_cons_succ]))
            (refine rg_pureS (v := ?v29u5) 29 rfl (by kernel_rfl) (fun _ _ _ h => h) rfl (by exact ⟨hS.blkCell 1 rfl 7 rfl, hS.blkCell 1 rfl 5 rfl, hS.blkCell 1 rfl 6 rfl, hS.blkCell 0 rfl i hk, hS.blkCell 2 rfl i hw⟩) ?hy29u5 ?rest29u5; (case hy29u5 => (intro w; go_simp; try with_reducible rfl)); (try simp only [Act.put, List.setIfInBounds_toArray, List.set_cons_zero, List.set_cons_succ]))
            (refine rg_pure (v := ?v30u5) 30 rfl (by kernel_rfl) (fun _ _ _ h => h) rfl ?hy30u5 ?rest30u5; (case hy30u5 => (intro w; go_simp; try with_reducible rfl)); (try simp only [Act.put, List.setIfInBounds_toArray, List.set_cons_zero, List.set_cons_succ]))
            refine rg_done (by kernel_rfl) ?_
            go_wp2_with fail
            replace hS := hS.drew
            refine rg_start (fun w => w.cell? ⟨vb, 1, none⟩ = some (wv b) ∧ w.cell? ⟨vb, 2, none⟩ = some (wv c')) [1, 3, 4, 6, 7, 14, 15, 16, 18, 20, 21, 22, 23] (by kernel_rfl) ?_
            -- P0 P2 P5 P8 P9 P12 P13 P17 P19 L10 P11 L14 P15 P16 L18 L20 P21 P22 S1 S3 P4 S6 P7 P23 P24
            (refine rg_pure (v := ?v0u6) 0 rfl (by kernel_rfl) (fun _ _ _ h => h) rfl ?hy0u6 ?rest0u6; (case hy0u6 => (intro w; go_simp; try with_reducible rfl)); (try simp only [Act.put, List.setIfInBounds_toArray, List.set_cons_zero, List.set_cons_succ]))
            (refine rg_pure (v := ?v2u6) 2 rfl (by kernel_rfl) (fun _ _ _ h => h) rfl ?hy2u6 ?rest2u6; (case hy2u6 => (intro w; go_simp; try with_reducible rfl)); (try simp only [Act.put, List.setIfInBounds_toArray, List.set_cons_zero, List.set_cons_succ]))
            (refine rg_pure (v := ?v5u6) 5 rfl (by kernel_rfl) (fun _ _ _ h => h) rfl ?hy5u6 ?rest5u6; (case hy5u6 => (intro w; go_simp; try with_reducible rfl)); (try simp only [Act.put, List.setIfInBounds_toArray, List.set_cons_zero, List.set_cons_succ]))
            (refine rg_pure (v := ?v8u6) 8 rfl (by kernel_rfl) (fun _ _ _ h => h) rfl ?hy8u6 ?rest8u6; (case hy8u6 => (intro w; go_simp; try with_reducible rfl)); (try simp only [Act.put, List.setIfInBounds_toArray, List.set_cons_zero, List.set_cons_succ]))
            (refine rg_pure (v := ?v9u6) 9 rfl (by kernel_rfl) (fun _ _ _ h => h) rfl ?hy9u6 ?rest9u6; (case hy9u6 => (intro w; go_simp; try with_reducible rfl)); (try simp only [Act.put, List.setIfInBounds_toArray, List.set_cons_zero, List.set_cons_succ]))
            (refine rg_pure (v := ?v12u6) 12 rfl (by kernel_rfl) (fun _ _ _ h => h) rfl ?hy12u6 ?rest12u6; (case hy12u6 => (intro w; go_simp; try with_reducible rfl)); (try simp only [Act.put, List.setIfInBounds_toArray, List.set_cons_zero, List.set_cons_succ]))
            (refine rg_pure (v := ?v13u6) 13 rfl (by kernel_rfl) (fun _ _ _ h => h) rfl ?hy13u6 ?rest13u6; (case hy13u6 => (intro w; go_simp; try with_reducible rfl)); (try simp only [Act.put, List.setIfInBounds_toArray, List.set_cons_zero, List.set_cons_succ]))
            (refine rg_pure (v := ?v17u6) 17 rfl (by kernel_rfl) (fun _ _ _ h => h) rfl ?hy17u6 ?rest17u6; (case hy17u6 => (intro w; go_simp; try with_reducible rfl)); (try simp only [Act.put, List.setIfInBounds_toArray, List.set_cons_zero, List.set_cons_succ]))
            (refine rg_pure (v := ?v19u6) 19 rfl (by kernel_rfl) (fun _ _ _ h => h) rfl ?hy19u6 ?rest19u6; (case hy19u6 => (intro w; go_simp; try with_reducible rfl)); (try simp only [Act.put, List.setIfInBounds_toArray, List.set_cons_zero, List.set_cons_succ]))
            ((first | (refine rg_load 10 rfl (by kernel_rfl) rfl (by exact ⟨hS.blkCell 1 rfl 1 rfl, hS.blkCell 1 rfl 2 rfl⟩) _ _ rfl _ _ rfl _ (fun w hS => hS.1) (fun _ _ _ h => h) ?_) | (refine rg_load 10 rfl (by kernel_rfl) rfl (by exact ⟨hS.blkCell 1 rfl 1 rfl, hS.blkCell 1 rfl 2 rfl⟩) _ _ rfl _ _ rfl _ (fun w hS => hS.2) (fun _ _ _ h => h) ?_)); (try simp only [Act.put, List.setIfInBounds_toArray, List.set_cons_zero, List.set_cons_succ]))
            (refine rg_pure (v := ?v11u6) 11 rfl (by kernel_rfl) (fun _ _ _ h => h) rfl ?hy11u6 ?rest11u6; (case hy11u6 => (intro w; go_simp; try with_reducible rfl)); (try simp only [Act.put, List.setIfInBounds_toArray, List.set_cons_zero, List.set_cons_succ]))
            ((first | (refine rg_load 14 rfl (by kernel_rfl) rfl (by exact ⟨hS.blkCell 1 rfl 1 rfl, hS.blkCell 1 rfl 2 rfl⟩) _ _ rfl _ _ rfl _ (fun w hS => hS.1) (fun _ _ _ h => h) ?_) | (refine rg_load 14 rfl (by kernel_rfl) rfl (by exact ⟨hS.blkCell 1 rfl 1 rfl, hS.blkCell 1 rfl 2 rfl⟩) _ _ rfl _ _ rfl _ (fun w hS => hS.2) (fun _ _ _ h => h) ?_)); (try simp only [Act.put, List.setIfInBounds_toArray, List.set_cons_zero, List.set_cons_succ]))
            (refine rg_pureS (v := ?v15u6) 15 rfl (by kernel_rfl) (fun _ _ _ h => h) rfl (by exact ⟨hS.blkCell 1 rfl 1 rfl, hS.blkCell 1 rfl 2 rfl⟩) ?hy15u6 ?rest15u6; (case hy15u6 => (intro w; go_simp; try with_reducible rfl)); (try simp only [Act.put, List.setIfInBounds_toArray, List.set_cons_zero, List.set_cons_succ]))
            (refine rg_pureS (v := ?v16u6) 16 rfl (by kernel_rfl) (fun _ _ _ h => h) rfl (by exact ⟨hS.blkCell 1 rfl 1 rfl, hS.blkCell 1 rfl 2 rfl⟩) ?hy16u6 ?rest16u6; (case hy16u6 => (intro w; go_simp; try with_reducible rfl)); (try simp only [Act.put, List.setIfInBounds_toArray, List.set_cons_zero, List.set_cons_succ]))
            ((first | (refine rg_load 18 rfl (by kernel_rfl) rfl (by exact ⟨hS.blkCell 1 rfl 1 rfl, hS.blkCell 1 rfl 2 rfl⟩) _ _ rfl _ _ rfl _ (fun w hS => hS.1) (fun _ _ _ h => h) ?_) | (refine rg_load 18 rfl (by kernel_rfl) rfl (by exact ⟨hS.blkCell 1 rfl 1 rfl, hS.blkCell 1 rfl 2 rfl⟩) _ _ rfl _ _ rfl _ (fun w hS => hS.2) (fun _ _ _ h => h) ?_)); (try simp only [Act.put, List.setIfInBounds_toArray, List.set_cons_zero, List.set_cons_succ]))
            ((first | (refine rg_load 20 rfl (by kernel_rfl) rfl (by exact ⟨hS.blkCell 1 rfl 1 rfl, hS.blkCell 1 rfl 2 rfl⟩) _ _ rfl _ _ rfl _ (fun w hS => hS.1) (fun _ _ _ h => h) ?_) | (refine rg_load 20 rfl (by kernel_rfl) rfl (by exact ⟨hS.blkCell 1 rfl 1 rfl, hS.blkCell 1 rfl 2 rfl⟩) _ _ rfl _ _ rfl _ (fun w hS => hS.2) (fun _ _ _ h => h) ?_)); (try simp only [Act.put, List.setIfInBounds_toArray, List.set_cons_zero, List.set_cons_succ]))
            (refine rg_pureS (v := ?v21u6) 21 rfl (by kernel_rfl) (fun _ _ _ h => h) rfl (by exact ⟨hS.blkCell 1 rfl 1 rfl, hS.blkCell 1 rfl 2 rfl⟩) ?hy21u6 ?rest21u6; (case hy21u6 => (intro w; go_simp; try with_reducible rfl)); (try simp only [Act.put, List.setIfInBounds_toArray, List.set_cons_zero, List.set_cons_succ]))
            (refine rg_pureS (v := ?v22u6) 22 rfl (by kernel_rfl) (fun _ _ _ h => h) rfl (by exact ⟨hS.blkCell 1 rfl 1 rfl, hS.blkCell 1 rfl 2 rfl⟩) ?hy22u6 ?rest22u6; (case hy22u6 => (intro w; go_simp; try with_reducible rfl)); (try simp only [Act.put, List.setIfInBounds_toArray, List.set_cons_zero, List.set_cons_succ]))
            (refine rg_step 1 rfl (by kernel_rfl) (fun K' hK => ?_); go_wp2_with (first | (go_at_call 121; refine (rotA_spec rfl).mono ?_; rintro e w' ⟨rfl, rfl⟩)); (try with_reducible refine rg_back ?_); refine hK.out _ _ (fun _ => by exact ⟨hS.blkCell 1 rfl 1 rfl, hS.blkCell 1 rfl 2 rfl⟩) ?_; clear hK; clear K'; (try simp only [Act.put, List.setIfInBounds_toArray, List.set_cons_zero, List.set_cons_succ]))
            (refine rg_step 3 rfl (by kernel_rfl) (fun K' hK => ?_); go_wp2_with (first | (go_at_call 121; refine (rotA_spec rfl).mono ?_; rintro e w' ⟨rfl, rfl⟩)); (try with_reducible refine rg_back ?_); refine hK.out _ _ (fun _ => by exact ⟨hS.blkCell 1 rfl 1 rfl, hS.blkCell 1 rfl 2 rfl⟩) ?_; clear hK; clear K'; (try simp only [Act.put, List.setIfInBounds_toArray, List.set_cons_zero, List.set_cons_succ]))
            (refine rg_pureS (v := ?v4u6) 4 rfl (by kernel_rfl) (fun _ _ _ h => h) rfl (by exact ⟨hS.blkCell 1 rfl 1 rfl, hS.blkCell 1 rfl 2 rfl⟩) ?hy4u6 ?rest4u6; (case hy4u6 => (intro w; go_simp; try with_reducible rfl)); (try simp only [Act.put, List.setIfInBounds_toArray, List.set_cons_zero, List.set_cons_succ]))
            (refine rg_step 6 rfl (by kernel_rfl) (fun K' hK => ?_); go_wp2_with (first | (go_at_call 121; refine (rotA_spec rfl).mono ?_; rintro e w' ⟨rfl, rfl⟩)); (try with_reducible refine rg_back ?_); refine hK.out _ _ (fun _ => by exact ⟨hS.blkCell 1 rfl 1 rfl, hS.blkCell 1 rfl 2 rfl⟩) ?_; clear hK; clear K'; (try simp only [Act.put, List.setIfInBounds_toArray, List.set_cons_zero, List.set_cons_succ]))
            (refine rg_pureS (v := ?v7u6) 7 rfl (by kernel_rfl) (fun _ _ _ h => h) rfl (by exact ⟨hS.blkCell 1 rfl 1 rfl, hS.blkCell 1 rfl 2 rfl⟩) ?hy7u6 ?rest7u6; (case hy7u6 => (intro w; go_simp; try with_reducible rfl)); (try simp only [Act.put, List.setIfInBounds_toArray, List.set_cons_zero, List.set_cons_succ]))
            (refine rg_pureS (v := ?v23u6) 23 rfl (by kernel_rfl) (fun _ _ _ h => h) rfl (by exact ⟨hS.blkCell 1 rfl 1 rfl, hS.blkCell 1 rfl 2 rfl⟩) ?hy23u6 ?rest23u6; (case hy23u6 => (intro w; go_simp; try with_reducible rfl)); (try simp only [Act.put, List.setIfInBounds_toArray, List.set_cons_zero, List.set_cons_succ]))
            (refine rg_pure (v := ?v24u6) 24 rfl (by kernel_rfl) (fun _ _ _ h => h) rfl ?hy24u6 ?rest24u6; (case hy24u6 => (intro w; go_simp; try with_reducible rfl)); (try simp only [Act.put, List.setIfInBounds_toArray, List.set_cons_zero, List.set_cons_succ]))
            refine rg_done (by kernel_rfl) ?_
            go_wp2_with fail
            have hcp : ∀ {W : World} {L0 : List Item} {w0 : World}, Nx L0 I w0 I [.blk cb (wvs cubeL) 182, .blk vb (wvs [a, b, c', d, e, f, g, z]) 160, .blk wb cs 182, sumI sp s ra rn rc m] W → ∀ (j : Nat) u, [wv a, wv b, wv c', wv d, wv e, wv f, wv g][j]? = some u → W.cell? (Addr.add ⟨vb, 0, none⟩ j) = some u := fun hS j u hu => by
              rw [Addr.add_lit]
              have hj := (List.getElem?_eq_some_iff.1 hu).1
              refine hS.blkCell 1 rfl _ ?_
              match j, hj, hu with
              | 0, _, hu | 1, _, hu | 2, _, hu | 3, _, hu | 4, _, hu | 5, _, hu | 6, _, hu => exact hu
            have h17 : ∀ u ∈ [wv a, wv b, wv c', wv d, wv e, wv f, wv g], u.oneCell' = true := fun u hu => by
              simp only [List.mem_cons, List.not_mem_nil, or_false] at hu
              rcases hu with rfl | rfl | rfl | rfl | rfl | rfl | rfl <;> rfl
            replace hS := hS.drew
            refine rg_start (fun _ => True) [] (by kernel_rfl) ?_
            -- P0 P1 S2
            (refine rg_pure (v := ?v0u7) 0 rfl (by kernel_rfl) (fun _ _ _ h => h) rfl ?hy0u7 ?rest0u7; (case hy0u7 => (intro w; go_simp; try with_reducible rfl)); (try simp only [Act.put, List.setIfInBounds_toArray, List.set_cons_zero, List.set_cons_succ]))
            (refine rg_pure (v := ?v1u7) 1 rfl (by kernel_rfl) (fun _ _ _ h => h) rfl ?hy1u7 ?rest1u7; (case hy1u7 => (intro w; go_simp; try with_reducible rfl)); (try simp only [Act.put, List.setIfInBounds_toArray, List.set_cons_zero, List.set_cons_succ]))
            (refine rg_step 2 rfl (by kernel_rfl) (fun K' hK => ?_); go_wp2_with (first | (refine sL_copyB hS rfl _ _ _ _ rfl 1 _ _ _ _ _ _ rfl rfl _ _ _ rfl [wv a, wv b, wv c', wv d, wv e, wv f, wv g] rfl (hcp hS) (Nat.le_refl 8) h17 ?_; clear hS; intro w' hS; simp only [List.set_cons_zero, List.set_cons_succ] at hS)); (try with_reducible refine rg_back ?_); refine hK.out _ _ (fun h => absurd h (by decide)) ?_; clear hK; clear K'; (try simp only [Act.put, List.setIfInBounds_toArray, List.set_cons_zero, List.set_cons_succ]))
            refine rg_done (by kernel_rfl) ?_
            go_wp2_with (first | ((with_reducible refine gL_load ?_); refine sL_loadC rfl _ _ rfl _ _ rfl _ (hS.blkCell 1 rfl 4 rfl) ?_) | ((with_reducible refine gL_store ?_); (first | (refine sL_store hS rfl _ _ _ rfl _ _ rfl 1 _ _ rfl (wv (addW (oneW e f g z k q) (twoW a b c'))) rfl rfl (by simp [wvs]) ?_) | (refine sL_store hS rfl _ _ _ rfl _ _ rfl 1 _ _ rfl (wv (addW d (oneW e f g z k q))) rfl rfl (by simp [wvs]) ?_)); clear hS; intro w' hS; simp only [List.set_cons_zero, List.set_cons_succ] at hS))
            refine ⟨⟨i + 1, hlt, by simp, ?_⟩, ?_⟩
            · rw [Hr.out]; exact hS
            · simp [intOf]; omega
          · obtain rfl : i = 64 := by omega
            go_wp2_with fail
            have hml := mixW_eq hs l
            have hvl := rndS_len s l 64
            generalize rndS s l 64 = vv at hS hml hvl
            rw [hs] at hvl
            have Hml := Lib.hid hml
            clear hml
            go_loopw [145] (fun v145 wr => ∃ i, i ≤ 8 ∧ v145 = .int .i64 (i : Nat) ∧ Nx [sumI sp s ra rn rc m] I w I [.blk cb (wvs cubeL) 182, .blk vb (wvs vv) 160, .blk wb cs 182, sumI sp (addL s vv i) ra rn rc m] wr) (fun v145 _ => 8 - (intOf v145).toNat)
            case atStart => exact ⟨0, by omega, rfl, by rw [addL_zero]; exact hS⟩
            case round =>
              clear hS
              obtain ⟨i, hi, rfl, hS⟩ := hrel
              by_cases hlt : i < 8
              · have hx : (addL s vv i)[i]? = s[i]? := addL_get s vv i i (Nat.le_refl _)
                have hal := addL_len s vv i
                have hnx := addL_succ s vv i
                have hy := wvs_get vv i (by omega)
                have hx2 : (wvs (addL s vv i) ++ [Value.slice ra rn rc, .int .u64 m])[i]? = some (wv (s.getD i 0)) := by
                  rw [List.getElem?_append_left (by simp only [wvs, List.length_map]; omega), wvs, List.getElem?_map, hx, List.getElem?_eq_getElem (by omega)]
                  simp [List.getD_eq_getElem?_getD, List.getElem?_eq_getElem (show i < s.length by omega)]
                generalize s.getD i 0 = x at hx2 hnx
                generalize vv.getD i 0 = y at hy hnx
                have hset := wvs_set (s := addL s vv i) (i := i) (by omega) (addW x y) [Value.slice ra rn rc, .int .u64 m]
                rw [← hnx] at hset
                have Hset := Lib.hid hset
                have hlen : i < (wvs (addL s vv i) ++ [Value.slice ra rn rc, .int .u64 m]).length := by simp only [wvs, List.length_append, List.length_map]; omega
                clear hx hnx hset
                go_wp2_with fail
                replace hS := hS.drew
                refine rg_start (fun w => w.cell? ⟨sp, i, none⟩ = some (wv x) ∧ w.cell? ⟨vb, i, none⟩ = some (wv y)) [8] (by kernel_rfl) ?_
                -- P0 P1 P2 P3 P4 P6 P7 P10 P11 L5 L8 P9 P12 S13
                (refine rg_pure (v := ?v0u8) 0 rfl (by kernel_rfl) (fun _ _ _ h => h) rfl ?hy0u8 ?rest0u8; (case hy0u8 => (intro w; go_simp; try with_reducible rfl)); (try simp only [Act.put, List.setIfInBounds_toArray, List.set_cons_zero, List.set_cons_succ]))
                (refine rg_pure (v := ?v1u8) 1 rfl (by kernel_rfl) (fun _ _ _ h => h) rfl ?hy1u8 ?rest1u8; (case hy1u8 => (intro w; go_simp; try with_reducible rfl)); (try simp only [Act.put, List.setIfInBounds_toArray, List.set_cons_zero, List.set_cons_succ]))
                (refine rg_pure (v := ?v2u8) 2 rfl (by kernel_rfl) (fun _ _ _ h => h) rfl ?hy2u8 ?rest2u8; (case hy2u8 => (intro w; go_simp; try with_reducible rfl)); (try simp only [Act.put, List.setIfInBounds_toArray, List.set_cons_zero, List.set_cons_succ]))
                (refine rg_pure (v := ?v3u8) 3 rfl (by kernel_rfl) (fun _ _ _ h => h) rfl ?hy3u8 ?rest3u8; (case hy3u8 => (intro w; go_simp; try with_reducible rfl)); (try simp only [Act.put, List.setIfInBounds_toArray, List.set_cons_zero, List.set_cons_succ]))
                (refine rg_pure (v := ?v4u8) 4 rfl (by kernel_rfl) (fun _ _ _ h => h) rfl ?hy4u8 ?rest4u8; (case hy4u8 => (intro w; go_simp; try with_reducible rfl)); (try simp only [Act.put, List.setIfInBounds_toArray, List.set_cons_zero, List.set_cons_succ]))
                (refine rg_pure (v := ?v6u8) 6 rfl (by kernel_rfl) (fun _ _ _ h => h) rfl ?hy6u8 ?rest6u8; (case hy6u8 => (intro w; go_simp; try with_reducible rfl)); (try simp only [Act.put, List.setIfInBounds_toArray, List.set_cons_zero, List.set_cons_succ]))
                (refine rg_pure (v := ?v7u8) 7 rfl (by kernel_rfl) (fun _ _ _ h => h) rfl ?hy7u8 ?rest7u8; (case hy7u8 => (intro w; go_simp; try with_reducible rfl)); (try simp only [Act.put, List.setIfInBounds_toArray, List.set_cons_zero, List.set_cons_succ]))
                (refine rg_pure (v := ?v10u8) 10 rfl (by kernel_rfl) (fun _ _ _ h => h) rfl ?hy10u8 ?rest10u8; (case hy10u8 => (intro w; go_simp; try with_reducible rfl)); (try simp only [Act.put, List.setIfInBounds_toArray, List.set_cons_zero, List.set_cons_succ]))
                (refine rg_pure (v := ?v11u8) 11 rfl (by kernel_rfl) (fun _ _ _ h => h) rfl ?hy11u8 ?rest11u8; (case hy11u8 => (intro w; go_simp; try with_reducible rfl)); (try simp only [Act.put, List.setIfInBounds_toArray, List.set_cons_zero, List.set_cons_succ]))
                ((first | (refine rg_load 5 rfl (by kernel_rfl) rfl (by exact ⟨hS.blkCell 3 rfl i hx2, hS.blkCell 1 rfl i hy⟩) _ _ rfl _ _ rfl _ (fun w hS => hS.1) (fun _ _ _ h => h) ?_) | (refine rg_load 5 rfl (by kernel_rfl) rfl (by exact ⟨hS.blkCell 3 rfl i hx2, hS.blkCell 1 rfl i hy⟩) _ _ rfl _ _ rfl _ (fun w hS => (by rw [Nat.zero_add]; exact hS.1)) (fun _ _ _ h => h) ?_) | (refine rg_load 5 rfl (by kernel_rfl) rfl (by exact ⟨hS.blkCell 3 rfl i hx2, hS.blkCell 1 rfl i hy⟩) _ _ rfl _ _ rfl _ (fun w hS => hS.2) (fun _ _ _ h => h) ?_)); (try simp only [Act.put, List.setIfInBounds_toArray, List.set_cons_zero, List.set_cons_succ]))
                ((first | (refine rg_load 8 rfl (by kernel_rfl) rfl (by exact ⟨hS.blkCell 3 rfl i hx2, hS.blkCell 1 rfl i hy⟩) _ _ rfl _ _ rfl _ (fun w hS => hS.1) (fun _ _ _ h => h) ?_) | (refine rg_load 8 rfl (by kernel_rfl) rfl (by exact ⟨hS.blkCell 3 rfl i hx2, hS.blkCell 1 rfl i hy⟩) _ _ rfl _ _ rfl _ (fun w hS => (by rw [Nat.zero_add]; exact hS.1)) (fun _ _ _ h => h) ?_) | (refine rg_load 8 rfl (by kernel_rfl) rfl (by exact ⟨hS.blkCell 3 rfl i hx2, hS.blkCell 1 rfl i hy⟩) _ _ rfl _ _ rfl _ (fun w hS => hS.2) (fun _ _ _ h => h) ?_)); (try simp only [Act.put, List.setIfInBounds_toArray, List.set_cons_zero, List.set_cons_succ]))
                (refine rg_pure (v := ?v9u8) 9 rfl (by kernel_rfl) (fun _ _ _ h => h) rfl ?hy9u8 ?rest9u8; (case hy9u8 => (intro w; go_simp; try with_reducible rfl)); (try simp only [Act.put, List.setIfInBounds_toArray, List.set_cons_zero, List.set_cons_succ]))
                (refine rg_pure (v := ?v12u8) 12 rfl (by kernel_rfl) (fun _ _ _ h => h) rfl ?hy12u8 ?rest12u8; (case hy12u8 => (intro w; go_simp; try with_reducible rfl)); (try simp only [Act.put, List.setIfInBounds_toArray, List.set_cons_zero, List.set_cons_succ]))
                (refine rg_step 13 rfl (by kernel_rfl) (fun K' hK => ?_); go_wp2_with (first | ((with_reducible refine gL_store ?_); (first | (refine sL_store hS rfl _ _ _ rfl _ i rfl 3 _ _ rfl (wv (addW x y)) rfl rfl hlen ?_) | (refine sL_store hS rfl _ _ _ rfl _ i (by go_simp; rfl) 3 _ _ rfl (wv (addW x y)) rfl rfl hlen ?_)); clear hS; intro w' hS; simp only [List.set_cons_zero, List.set_cons_succ] at hS)); (try with_reducible refine rg_back ?_); refine hK.out _ _ (fun h => absurd h (by decide)) ?_; clear hK; clear K'; (try simp only [Act.put, List.setIfInBounds_toArray, List.set_cons_zero, List.set_cons_succ]))
                refine rg_done (by kernel_rfl) ?_
                go_wp2_with fail
                go_roundw
                case rel => refine ⟨_, _, _, _, _, _, _, _, _, _, _, _, _, _, _, _, _, _, ⟨i + 1, hlt, ?r1, ?r2⟩, rfl⟩; (case r1 => simp); (case r2 => rw [Hset.out] at hS; exact hS)
                case measure => simp [intOf]; omega
              · obtain rfl : i = 8 := by omega
                go_wp2_with fail
                exact bodyPost_end (results_none rfl _ _ _) rfl ⟨_, I, rfl, by rw [Hml.out]; exact hS.drop.drop.drop⟩
end
end Go.Proofs.YtmlgieclkedomaaGreat

namespace Go.Proofs.YtmlgieclkedomaaGreat
open Go Go.RowKit
attribute [local go_sem] Oper.semAt_some
attribute [local irreducible] mixW

/-- the whole blocks of a slice of bytes, and what is left -/
def blkV : Nat → Option Addr → Nat → Nat → List (Bool × Value)
  | 0, ad, n, c => [(false, .slice ad n c)]
  | k + 1, ad, n, c => (true, .slice ad 64 c) :: blkV k (adrop ad 64 c 1) (n - 64) (c - 64)
def encB (x : Bool × Value) : Array Value := #[.bool x.1, x.2]
theorem blkV_len (k : Nat) : ∀ (ad : Option Addr) (n c : Nat), (blkV k ad n c).length = k + 1 := by
  induction k with
  | zero => intro ad n c; rfl
  | succ k ih => intro ad n c; simp [blkV, ih]
theorem RdB.cut {I : Imm} {ad : Option Addr} {n c : Nat} {l : Bs} (h : RdB I (.slice ad n c) l) (hn : l.length = n) (h64 : 64 ≤ n) :
    RdB I (.slice ad 64 c) (l.take 64) ∧ RdB I (.slice (adrop ad 64 c 1) (n - 64) (c - 64)) (l.drop 64) := by
  obtain ⟨ad0, c0, e, k1, k2, k3⟩ := h.ex
  simp only [Value.slice.injEq] at e
  obtain ⟨rfl, hnn, rfl⟩ := e
  have hadr : ad = none ∨ ∃ b j, ad = some ⟨b, j, none⟩ := by
    rcases k3 with ⟨_, e, _⟩ | ⟨b, j, e, _⟩
    · omega
    · exact .inr ⟨b, j, e⟩
  have a1 := h.sub hn 0 64 c (by omega) h64 (by omega) (by omega)
  have a2 := h.sub hn 64 n c h64 (Nat.le_refl _) (by omega) (Nat.le_refl _)
  rw [adrop_zero ad c 1 hadr, List.drop_zero] at a1
  rw [List.take_of_length_le (by rw [List.length_drop]; omega)] at a2
  exact ⟨a1, a2⟩
theorem blkV_at {I : Imm} (k : Nat) : ∀ {ad : Option Addr} {n c : Nat} {l : Bs}, RdB I (.slice ad n c) l → l.length = n → 64 * k ≤ n → ∀ {pre : List (Bool × Value)} {x : Bool × Value}, (pre ++ [x]) <+: blkV k ad n c →
    pre.length ≤ k ∧ (pre.length < k → x.1 = true ∧ RdB I x.2 ((l.drop (64 * pre.length)).take 64)) ∧ (pre.length = k → x.1 = false ∧ RdB I x.2 (l.drop (64 * k))) := by
  induction k with
  | zero =>
    intro ad n c l h hn hk pre x hp
    cases pre with
    | nil =>
      obtain ⟨t, ht⟩ := hp
      simp only [blkV, List.nil_append, List.singleton_append, List.cons.injEq] at ht
      obtain ⟨rfl, _⟩ := ht
      exact ⟨Nat.le_refl _, fun h => absurd h (by simp), fun _ => ⟨rfl, by simpa using h⟩⟩
    | cons y ys =>
      have := hp.length_le
      simp [blkV] at this
  | succ k ih =>
    intro ad n c l h hn hk pre x hp
    obtain ⟨c1, c2⟩ := h.cut hn (by omega)
    cases pre with
    | nil =>
      obtain ⟨t, ht⟩ := hp
      simp only [blkV, List.nil_append, List.singleton_append, List.cons.injEq] at ht
      obtain ⟨rfl, _⟩ := ht
      exact ⟨Nat.zero_le _, fun _ => ⟨rfl, by simpa using c1⟩, fun h => by simp at h⟩
    | cons y ys =>
      rw [List.cons_append, blkV, List.cons_prefix_cons] at hp
      obtain ⟨h1, h2, h3⟩ := ih c2 (by rw [List.length_drop]; omega) (by omega) hp.2
      simp only [List.drop_drop] at h2 h3
      refine ⟨by simp; omega, fun hlt => ?_, fun he => ?_⟩
      · have := h2 (by simp at hlt; omega)
        rw [show 64 + 64 * ys.length = 64 * (y :: ys).length by simp; omega] at this
        exact this
      · have := h3 (by simp at he; omega)
        rw [show 64 + 64 * k = 64 * (k + 1) by omega] at this
        exact this

section
variable {F : Fence} {nn : Nat} {P : Program} {ops : Array Oper} {Q : Exit → Act → World → Prop} {a : Act} {w : World} {rest : List Oper} {o : Oper}
theorem sN_slice0 (hg : Region.wanted o (yielded ops a.tmps) = true) (T : TypeId) (x : Operand) (hi mx : Option Operand) (ho : o.op = .slice T x none hi mx) {e sz bytes : Nat} [hT : SliceT P T e sz bytes] (ad : Option Addr) (n c : Nat) (hx : a.eval x = .slice ad n c) (hadr : ad = none ∨ ∃ b j, ad = some ⟨b, j, none⟩)
    (h m : Nat) (h2 : bnd (hi.map a.eval) n h) (h3 : bnd (mx.map a.eval) c m) (h5 : h ≤ m) (h6 : m ≤ c) (h9 : mx.isSome → hi.isSome)
    (k : wpListIn F nn P ops Q rest (a.put o.dst (.slice ad h m)) w) : wpListIn F nn P ops Q (o :: rest) a w :=
  sN_slice hg T x none hi mx ho ad n c hx 0 h m rfl h2 h3 (by omega) h5 h6 h9 (by rw [adrop_zero ad m sz hadr]; exact k)
end
theorem adrop_ok {ad : Option Addr} (l m s : Nat) (h : ad = none ∨ ∃ b j, ad = some ⟨b, j, none⟩) : adrop ad l m s = none ∨ ∃ b j, adrop ad l m s = some ⟨b, j, none⟩ := by
  unfold adrop
  split
  · exact h
  · rcases h with rfl | ⟨b, j, rfl⟩
    · exact .inl rfl
    · exact .inr ⟨b, j + l * s, by simp [Addr.add_lit]⟩
theorem blkV_big {n : Nat} (h : 64 ≤ n) (ad : Option Addr) (c : Nat) : blkV (n / 64) ad n c = (true, .slice ad 64 c) :: blkV ((n - 64) / 64) (adrop ad 64 c 1) (n - 64) (c - 64) := by
  rw [show n / 64 = (n - 64) / 64 + 1 by omega]; rfl
theorem blkV_small {n : Nat} (h : ¬ 64 ≤ n) (ad : Option Addr) (c : Nat) : blkV (n / 64) ad n c = [(false, .slice ad n c)] := by
  rw [show n / 64 = 0 by omega]; rfl
theorem blocks_spec {I : Imm} {w : World} (hI : I.Holds w) {ad : Option Addr} {n c : Nat} :
    Calls Tryz.prog 98 #[.slice ad n c] w fun e w' => ∃ b, e = .returned (.func (.func 119) #[] #[.pointer (some ⟨b, 0, none⟩)]) ∧ Nx [] I w I [.blk b [.slice ad n c] 22] w' := by
  have hS := Nx.nil hI
  have hmf : ∀ (fn : Fn) (first cap : Array Value) (w : World), (Instr.makeFunc fn first cap).run Tryz.prog w = .ok (.func fn first cap) w := fun _ _ _ _ => rfl
  go_enter Tryz.func98, Tryz.ntmps98
  go_wp2_with ((with_reducible refine gL_box ?_); (refine sL_box hS rfl _ _ rfl _ (by go_simp; first | exact rfl | exact ⟨rfl, rfl⟩) ?_; clear hS; intro b w' hb hS))
  go_ret
  exact ⟨b, rfl, hS⟩

def lenAt (w : World) (b : Nat) : Nat := match w.cell? ⟨b, 0, none⟩ with | some (.slice _ n _) => n | _ => 0
theorem lenAt_eq {w : World} {b : Nat} {ad : Option Addr} {n c : Nat} (h : w.cell? ⟨b, 0, none⟩ = some (.slice ad n c)) : lenAt w b = n := by unfold lenAt; rw [h]
attribute [irreducible] lenAt
theorem blocks1_emits {I : Imm} {w : World} {b : Nat} {ad : Option Addr} {n c : Nat} (hc : n ≤ c) (hadr : ad = none ∨ ∃ b j, ad = some ⟨b, j, none⟩) (hl : n ≤ 1000000) :
    Emits Tryz.prog 119 #[.pointer (some ⟨b, 0, none⟩)] encB I w [.blk b [.slice ad n c] 22] (blkV (n / 64) ad n c) := by
  intro l Inv Bad B hY hin h0
  have hS := hin.nx
  simp only [List.cons_append, List.nil_append] at hS
  have hI0 := hin.hI
  have hend : ∀ {J : Imm} {w' : World} {ad : Option Addr} {B2 : List Item} {n c : Nat}, Nx (.blk b [.slice ad n c] 22 :: B) I w J (.blk b [.slice ad n c] 22 :: B2) w' → True := fun _ => trivial
  (refine callsIn_of_wp Tryz.func119 rfl trivial ?_; simp only [Tryz.ntmps119, List.size_toArray, List.length_cons, List.length_nil, Nat.reduceAdd, Nat.reduceSub, Array.replicate_succ, Array.replicate_zero, List.push_toArray, List.append_toArray, List.nil_append, List.cons_append])
  gi_wp2_with fail
  gi_loopw [3] (fun v3 wr => ∃ ad' n' c' pre J B', n' ≤ c' ∧ n' ≤ 1000000 ∧ (ad' = none ∨ ∃ b j, ad' = some ⟨b, j, none⟩) ∧ pre ++ blkV (n' / 64) ad' n' c' = blkV (n / 64) ad n c ∧ Nx (.blk b [.slice ad n c] 22 :: B) I w J (.blk b [.slice ad' n' c'] 22 :: B') wr ∧ Inv pre J B') (fun _ wr => lenAt wr b)
  case atStart => exact ⟨ad, n, c, [], I, B, hc, hl, hadr, rfl, hS, h0⟩
  case round =>
    clear hS
    obtain ⟨ad', n', c', pre, J, B', hc', hl', hadr', hxs, hS, hInv⟩ := hrel
    by_cases h64 : 64 ≤ n'
    · have hni : ¬ (n' : Int) < 64 := by omega
      rw [blkV_big h64] at hxs
      have hpre : pre ++ [(true, Value.slice ad' 64 c')] <+: blkV (n / 64) ad n c := by rw [← hxs]; exact ⟨_, by rw [List.append_assoc]; rfl⟩
      have h64c : 64 ≤ c' := by omega
      have hmeas : wr.cell? ⟨b, 0, none⟩ = some (.slice ad' n' c') := hS.blkCell 0 rfl 0 rfl
      gi_wp2_with (first | ((with_reducible refine gN_load ?_); first | (refine sN_load hS rfl _ _ rfl _ _ rfl 0 _ _ rfl _ rfl ?_) | (refine sN_load hS rfl _ _ rfl _ _ rfl 1 _ _ rfl _ rfl ?_) | (refine sN_load hS rfl _ _ rfl _ _ rfl 2 _ _ rfl _ rfl ?_) | (refine sN_load hS rfl _ _ rfl _ _ rfl 3 _ _ rfl _ rfl ?_) | (refine sN_load hS rfl _ _ rfl _ _ rfl 4 _ _ rfl _ rfl ?_) | (refine sN_load hS rfl _ _ rfl _ _ rfl 5 _ _ rfl _ rfl ?_) | (refine sN_loadA hS rfl _ _ rfl _ _ rfl 0 _ _ rfl _ rfl rfl ?_) | (refine sN_loadA hS rfl _ _ rfl _ _ rfl 1 _ _ rfl _ rfl rfl ?_) | (refine sN_loadA hS rfl _ _ rfl _ _ rfl 2 _ _ rfl _ rfl rfl ?_) | (refine sN_loadA hS rfl _ _ rfl _ _ rfl 3 _ _ rfl _ rfl rfl ?_) | (refine sN_loadA hS rfl _ _ rfl _ _ rfl 4 _ _ rfl _ rfl rfl ?_) | (refine sN_loadA hS rfl _ _ rfl _ _ rfl 5 _ _ rfl _ rfl rfl ?_)) | ((with_reducible refine gN_slice ?_); refine sN_slice0 rfl _ _ _ _ rfl _ _ _ rfl hadr' 64 c' rfl rfl h64c (Nat.le_refl _) (by simp) ?_))
      refine hY.at (Lit := [_]) hS (true, .slice ad' 64 c') hpre hInv (by simp [encB]) (fun J2 B2 w2 hS2 hI2 => ?_) (fun J2 B2 w2 hS2 hb2 => ?_)
      · clear hS
        have hS := hS2
        clear hS2
        gi_wp2_with (first | ((with_reducible refine gN_load ?_); first | (refine sN_load hS rfl _ _ rfl _ _ rfl 0 _ _ rfl _ rfl ?_) | (refine sN_load hS rfl _ _ rfl _ _ rfl 1 _ _ rfl _ rfl ?_) | (refine sN_load hS rfl _ _ rfl _ _ rfl 2 _ _ rfl _ rfl ?_) | (refine sN_load hS rfl _ _ rfl _ _ rfl 3 _ _ rfl _ rfl ?_) | (refine sN_load hS rfl _ _ rfl _ _ rfl 4 _ _ rfl _ rfl ?_) | (refine sN_load hS rfl _ _ rfl _ _ rfl 5 _ _ rfl _ rfl ?_) | (refine sN_loadA hS rfl _ _ rfl _ _ rfl 0 _ _ rfl _ rfl rfl ?_) | (refine sN_loadA hS rfl _ _ rfl _ _ rfl 1 _ _ rfl _ rfl rfl ?_) | (refine sN_loadA hS rfl _ _ rfl _ _ rfl 2 _ _ rfl _ rfl rfl ?_) | (refine sN_loadA hS rfl _ _ rfl _ _ rfl 3 _ _ rfl _ rfl rfl ?_) | (refine sN_loadA hS rfl _ _ rfl _ _ rfl 4 _ _ rfl _ rfl rfl ?_) | (refine sN_loadA hS rfl _ _ rfl _ _ rfl 5 _ _ rfl _ rfl rfl ?_)) | ((with_reducible refine gN_slice ?_); refine sN_slice rfl _ _ _ _ _ rfl _ _ _ rfl 64 n' c' rfl rfl rfl h64 hc' (Nat.le_refl _) (by simp) ?_) | (first | with_reducible refine wpIn_scope_straight ?_ | with_reducible refine wpIn_label ?_ | ((with_reducible refine gN_load ?_); first | (refine sN_load hS rfl _ _ rfl _ _ rfl 0 _ _ rfl _ rfl ?_) | (refine sN_load hS rfl _ _ rfl _ _ rfl 1 _ _ rfl _ rfl ?_) | (refine sN_load hS rfl _ _ rfl _ _ rfl 2 _ _ rfl _ rfl ?_) | (refine sN_load hS rfl _ _ rfl _ _ rfl 3 _ _ rfl _ rfl ?_) | (refine sN_load hS rfl _ _ rfl _ _ rfl 4 _ _ rfl _ rfl ?_) | (refine sN_load hS rfl _ _ rfl _ _ rfl 5 _ _ rfl _ rfl ?_) | (refine sN_loadA hS rfl _ _ rfl _ _ rfl 0 _ _ rfl _ rfl rfl ?_) | (refine sN_loadA hS rfl _ _ rfl _ _ rfl 1 _ _ rfl _ rfl rfl ?_) | (refine sN_loadA hS rfl _ _ rfl _ _ rfl 2 _ _ rfl _ rfl rfl ?_) | (refine sN_loadA hS rfl _ _ rfl _ _ rfl 3 _ _ rfl _ rfl rfl ?_) | (refine sN_loadA hS rfl _ _ rfl _ _ rfl 4 _ _ rfl _ rfl rfl ?_) | (refine sN_loadA hS rfl _ _ rfl _ _ rfl 5 _ _ rfl _ rfl rfl ?_)) | ((with_reducible refine gN_store ?_); first | (refine sN_store hS rfl _ _ _ rfl _ _ rfl 0 _ _ rfl _ (by go_simp; first | exact rfl | exact ⟨rfl, rfl⟩) rfl (by simp) ?_; clear hS; intro w' hS; simp only [List.set_cons_zero] at hS) | (refine sN_store hS rfl _ _ _ rfl _ _ rfl 1 _ _ rfl _ (by go_simp; first | exact rfl | exact ⟨rfl, rfl⟩) rfl (by simp) ?_; clear hS; intro w' hS; simp only [List.set_cons_zero, List.set_cons_succ] at hS) | (refine sN_store hS rfl _ _ _ rfl _ _ rfl 2 _ _ rfl _ (by go_simp; first | exact rfl | exact ⟨rfl, rfl⟩) rfl (by simp) ?_; clear hS; intro w' hS; simp only [List.set_cons_zero, List.set_cons_succ] at hS) | (refine sN_store hS rfl _ _ _ rfl _ _ rfl 3 _ _ rfl _ (by go_simp; first | exact rfl | exact ⟨rfl, rfl⟩) rfl (by simp) ?_; clear hS; intro w' hS; simp only [List.set_cons_zero, List.set_cons_succ] at hS) | (refine sN_store hS rfl _ _ _ rfl _ _ rfl 4 _ _ rfl _ (by go_simp; first | exact rfl | exact ⟨rfl, rfl⟩) rfl (by simp) ?_; clear hS; intro w' hS; simp only [List.set_cons_zero, List.set_cons_succ] at hS) | (refine sN_store hS rfl _ _ _ rfl _ _ rfl 5 _ _ rfl _ (by go_simp; first | exact rfl | exact ⟨rfl, rfl⟩) rfl (by simp) ?_; clear hS; intro w' hS; simp only [List.set_cons_zero, List.set_cons_succ] at hS) | (refine sN_storeB hS rfl _ _ _ rfl _ rfl 0 _ _ rfl _ (by go_simp; first | exact rfl | exact ⟨rfl, rfl⟩) (by rfl) (by rfl) (by simp [Value.oneCell']) ?_; clear hS; intro w' hS; simp only [List.set_cons_zero] at hS) | (refine sN_storeB hS rfl _ _ _ rfl _ rfl 1 _ _ rfl _ (by go_simp; first | exact rfl | exact ⟨rfl, rfl⟩) (by rfl) (by rfl) (by simp [Value.oneCell']) ?_; clear hS; intro w' hS; simp only [List.set_cons_zero, List.set_cons_succ] at hS) | (refine sN_storeB hS rfl _ _ _ rfl _ rfl 2 _ _ rfl _ (by go_simp; first | exact rfl | exact ⟨rfl, rfl⟩) (by rfl) (by rfl) (by simp [Value.oneCell']) ?_; clear hS; intro w' hS; simp only [List.set_cons_zero, List.set_cons_succ] at hS) | (refine sN_storeB hS rfl _ _ _ rfl _ rfl 3 _ _ rfl _ (by go_simp; first | exact rfl | exact ⟨rfl, rfl⟩) (by rfl) (by rfl) (by simp [Value.oneCell']) ?_; clear hS; intro w' hS; simp only [List.set_cons_zero, List.set_cons_succ] at hS) | (refine sN_storeB hS rfl _ _ _ rfl _ rfl 4 _ _ rfl _ (by go_simp; first | exact rfl | exact ⟨rfl, rfl⟩) (by rfl) (by rfl) (by simp [Value.oneCell']) ?_; clear hS; intro w' hS; simp only [List.set_cons_zero, List.set_cons_succ] at hS) | (refine sN_storeB hS rfl _ _ _ rfl _ rfl 5 _ _ rfl _ (by go_simp; first | exact rfl | exact ⟨rfl, rfl⟩) (by rfl) (by rfl) (by simp [Value.oneCell']) ?_; clear hS; intro w' hS; simp only [List.set_cons_zero, List.set_cons_succ] at hS)) | ((with_reducible refine gN_alloc ?_); (refine sN_alloc hS rfl _ rfl ?_; clear hS; intro b w' hb hS)) | ((with_reducible refine gN_box ?_); (refine sN_box hS rfl _ _ rfl _ (by go_simp; first | exact rfl | exact ⟨rfl, rfl⟩) ?_; clear hS; intro b w' hb hS))))
        refine ⟨⟨_, _, _, _, _, _, _, _, _, _, ⟨_, _, _, pre ++ [(true, Value.slice ad' 64 c')], J2, B2, by omega, by omega, adrop_ok 64 c' 1 hadr', ?_, hS, hI2⟩, rfl⟩, ?_⟩
        · rw [← hxs, List.append_assoc]; rfl
        · rw [lenAt_eq hmeas, lenAt_eq (hS.blkCell 0 rfl 0 rfl)]; omega
      · gi_wp2_with fail
        exact bodyPost_ret (results_none rfl _ _ _) rfl ⟨⟨_, rfl⟩, J2, B2, hS2.drop, .inr ⟨_, hpre, hb2⟩⟩
    · have hni : (n' : Int) < 64 := by omega
      rw [blkV_small h64] at hxs
      gi_wp2_with ((with_reducible refine gN_load ?_); first | (refine sN_load hS rfl _ _ rfl _ _ rfl 0 _ _ rfl _ rfl ?_) | (refine sN_load hS rfl _ _ rfl _ _ rfl 1 _ _ rfl _ rfl ?_) | (refine sN_load hS rfl _ _ rfl _ _ rfl 2 _ _ rfl _ rfl ?_) | (refine sN_load hS rfl _ _ rfl _ _ rfl 3 _ _ rfl _ rfl ?_) | (refine sN_load hS rfl _ _ rfl _ _ rfl 4 _ _ rfl _ rfl ?_) | (refine sN_load hS rfl _ _ rfl _ _ rfl 5 _ _ rfl _ rfl ?_) | (refine sN_loadA hS rfl _ _ rfl _ _ rfl 0 _ _ rfl _ rfl rfl ?_) | (refine sN_loadA hS rfl _ _ rfl _ _ rfl 1 _ _ rfl _ rfl rfl ?_) | (refine sN_loadA hS rfl _ _ rfl _ _ rfl 2 _ _ rfl _ rfl rfl ?_) | (refine sN_loadA hS rfl _ _ rfl _ _ rfl 3 _ _ rfl _ rfl rfl ?_) | (refine sN_loadA hS rfl _ _ rfl _ _ rfl 4 _ _ rfl _ rfl rfl ?_) | (refine sN_loadA hS rfl _ _ rfl _ _ rfl 5 _ _ rfl _ rfl rfl ?_))
      refine hY.at (Lit := [_]) hS (false, .slice ad' n' c') (by rw [← hxs]; exact List.prefix_refl _) hInv (by simp [encB]) (fun J2 B2 w2 hS2 hI2 => ?_) (fun J2 B2 w2 hS2 hb2 => ?_)
      · gi_wp2_with fail
        exact bodyPost_end (results_none rfl _ _ _) rfl ⟨⟨_, rfl⟩, J2, B2, hS2.drop, .inl (by rw [← hxs]; exact hI2)⟩
      · gi_wp2_with fail
        exact bodyPost_end (results_none rfl _ _ _) rfl ⟨⟨_, rfl⟩, J2, B2, hS2.drop, .inr ⟨_, by rw [← hxs]; exact List.prefix_refl _, hb2⟩⟩
set_option maxRecDepth 100000 in
theorem Copy_spec {I : Imm} {w : World} {sp : Nat} {s : List UInt32} {ra : Option Addr} {rn rc m : Nat} (hin : Init I [sumI sp s ra rn rc m] w) (hs : s.length = 8) (hz : s ≠ zero8) {r : Bs} (hr : RdB I (.slice ra rn rc) r) (hrl : r.length ≤ 1000000) :
    Calls Tryz.prog 100 #[.pointer (some ⟨sp, 0, none⟩)] w fun e w' => ∃ b J ra' rc', e = .returned (.pointer (some ⟨b, 0, none⟩)) ∧ RdB J (.slice ra' r.length rc') r ∧ Nx [sumI sp s ra rn rc m] I w J [sumI b s ra' r.length rc' m, sumI sp s ra rn rc m] w' := by
  have hS := hin.nx
  have hsl : (wvs s).length = 8 := by simp [wvs, hs]
  have hd : decide (s = zero8) = false := by simpa using hz
  have hlen : (wvs s ++ [Value.slice ra rn rc, .int .u64 m]).length = 10 := by simp [hsl]
  have h8 : ∀ x : Value, (wvs s ++ [x, .int .u64 m])[8]? = some x := fun x => by rw [List.getElem?_append_right (by omega), hsl]; rfl
  have hfull : ((wvs s ++ [Value.slice ra rn rc, .int .u64 m]).drop 0).take 10 = wvs s ++ [Value.slice ra rn rc, .int .u64 m] := by rw [List.drop_zero, List.take_of_length_le (by omega)]
  have hone : ∀ u ∈ wvs s ++ [Value.slice ra rn rc, .int .u64 m], u.oneCell' = true := fun u hu => by
    rcases List.mem_append.1 hu with h | h
    · exact wvs_one s u h
    · simp only [List.mem_cons, List.not_mem_nil, or_false] at h; rcases h with rfl | rfl <;> rfl
  have hset : ∀ x y : Value, (wvs s ++ [x, .int .u64 m]).set 8 y = wvs s ++ [y, .int .u64 m] := fun x y => by rw [List.set_append_right _ _ (by omega), hsl]; rfl
  have Hset := Lib.hid hset
  clear hset
  go_enter Tryz.func100, Tryz.ntmps100
  go_wp2_with (first | (go_at_call 97; refine (none_spec hs (fun i u hu => hS.blkCell 0 rfl _ (by rw [Nat.zero_add, List.getElem?_append_left (List.getElem?_eq_some_iff.1 hu).1]; exact hu))).mono ?_; rintro e w' ⟨rfl, rfl⟩; rw [hd]) | ((with_reducible refine gL_load ?_); refine sL_loadA hS rfl _ _ rfl _ _ rfl 0 _ _ rfl _ hfull hlen ?_) | (refine sL_alloc hS rfl 163 rfl ?_; clear hS; intro b w' hb hS) | ((with_reducible refine gL_store ?_); refine sL_storeB hS rfl _ _ _ rfl _ rfl 0 _ _ rfl (wvs s ++ [Value.slice ra rn rc, .int .u64 m]) rfl hlen rfl hone ?_; clear hS; intro w' hS; simp only [List.set_cons_zero] at hS; refine Stop.of ?_))
  refine Stop.to ?_
  go_wp2_with (first | ((with_reducible refine gL_load ?_); refine sL_load hS rfl _ _ rfl _ _ rfl 1 _ _ rfl _ (h8 _) ?_) | (go_at_call 49; refine (Clone_spec hS.hI hr (by omega)).mono ?_; rintro e w' ⟨ca, cc, rfl, hn⟩; obtain ⟨J, hS', hle, hrd⟩ := hS.pureFreeze hn; clear hS hn; have hS := hS'; clear hS') | ((with_reducible refine gL_store ?_); refine sL_store hS rfl _ _ _ rfl _ _ rfl 0 _ _ rfl (.slice ca r.length cc) rfl rfl (by omega) ?_; clear hS; intro w' hS; simp only [List.set_cons_zero] at hS; rw [Hset.out] at hS))
  go_ret
  exact ⟨b, J, ca, cc, rfl, hrd, hS⟩
end Go.Proofs.YtmlgieclkedomaaGreat

namespace Go.Proofs.YtmlgieclkedomaaGreat
open Go Go.RowKit
attribute [local go_sem] Oper.semAt_some
attribute [local irreducible] mixW

theorem blocksW_snoc (n : Nat) : ∀ (s : List UInt32) (l : Bs), blocksW s (n + 1) l = mixW (blocksW s n l) ((l.drop (64 * n)).take 64) := by
  induction n with
  | zero => intro s l; rfl
  | succ n ih =>
    intro s l
    show blocksW (mixW s (l.take 64)) (n + 1) (l.drop 64) = mixW (blocksW (mixW s (l.take 64)) n (l.drop 64)) _
    rw [ih, List.drop_drop, show 64 + 64 * n = 64 * (n + 1) by omega]
theorem mixW_len {s : List UInt32} (hs : s.length = 8) (l : Bs) : (mixW s l).length = 8 := by rw [mixW_eq hs, addL_len, hs]
theorem blocksW_len (n : Nat) : ∀ {s : List UInt32} (_ : s.length = 8) (l : Bs), (blocksW s n l).length = 8 := by
  induction n with
  | zero => intro s hs l; exact hs
  | succ n ih => intro s hs l; exact ih (mixW_len hs _) _
def wrInv (I1 : Imm) (tb sp : Nat) (s : List UInt32) (l : Bs) (N m : Nat) (pre : List (Bool × Value)) (J : Imm) (B : List Item) : Prop :=
  I1.Le J ∧ ∃ ra rn rc, B = [.blk tb [.pointer (some ⟨sp, 0, none⟩)] 134, sumI sp (blocksW s (min pre.length N) l) ra rn rc m] ∧ (pre.length = N + 1 → RdB J (.slice ra rn rc) (l.drop (64 * N)))
attribute [local irreducible] blocksW

set_option maxRecDepth 100000 in
theorem Write_spec {I : Imm} {w : World} {sp : Nat} {s : List UInt32} {ra : Option Addr} {rn rc m : Nat} (hin : Init I [sumI sp s ra rn rc m] w) (hs : s.length = 8) (hz : s ≠ zero8) {r p : Bs} (hr : RdB I (.slice ra rn rc) r) {v : Value} (hp : RdB I v p) (hl : r.length + p.length ≤ 900000) (hm : m ≤ 1000000000) :
    Calls Tryz.prog 78 #[.pointer (some ⟨sp, 0, none⟩), v] w fun e w' => e = .returned (.pointer (some ⟨sp, 0, none⟩)) ∧ ∃ J ra' rn' rc', RdB J (.slice ra' rn' rc') ((r ++ p).drop (64 * ((r ++ p).length / 64))) ∧
      Nx [sumI sp s ra rn rc m] I w J [sumI sp (blocksW s ((r ++ p).length / 64) (r ++ p)) ra' rn' rc' (m + p.length)] w' := by
  refine (callsIn_wide (n := 0)).1 ?_
  have hS := hin.nx
  obtain ⟨l, hll⟩ : ∃ l, l = r ++ p := ⟨_, rfl⟩
  rw [← hll]
  have hln : l.length = r.length + p.length := by rw [hll, List.length_append]
  rw [hln]
  obtain ⟨N, hN⟩ : ∃ N, N = (r.length + p.length) / 64 := ⟨_, rfl⟩
  rw [← hN]
  have h64N : 64 * N ≤ r.length + p.length := by omega
  have HN := Lib.hid hN
  have Hll := Lib.hid hll
  clear hll hN
  obtain ⟨pa, pc, rfl, hp1, hp2, hp3⟩ := hp.ex
  have hp' : RdB I (.slice pa p.length pc) p := hp
  clear hp3 hp
  have hsl : (wvs s).length = 8 := by simp [wvs, hs]
  have hd : decide (s = zero8) = false := by simpa using hz
  have h8 : ∀ (x : Value) m, (wvs s ++ [x, .int .u64 m])[8]? = some x := fun x m => by rw [List.getElem?_append_right (by omega), hsl]; rfl
  have h9 : ∀ (x y : Value), (wvs s ++ [x, y])[9]? = some y := fun x y => by rw [List.getElem?_append_right (by omega), hsl]; rfl
  have hset : ∀ x y z : Value, (wvs s ++ [x, y]).set 9 z = wvs s ++ [x, z] := fun x y z => by rw [List.set_append_right _ _ (by omega), hsl]; rfl
  have Hset := Lib.hid hset
  have hlen9 : ∀ x y : Value, 9 < (wvs s ++ [x, y]).length := fun x y => by simp [hsl]
  have hmp : IntKind.u64.wrap ((m : Int) + p.length) = ((m + p.length : Nat) : Int) := by rw [IntKind.wrap_u64]; omega
  clear hset
  (refine callsIn_of_wp_marks Tryz.func78 rfl trivial ?_; simp only [Tryz.ntmps78, List.size_toArray, List.length_cons, List.length_nil, Nat.reduceAdd, Nat.reduceSub, Array.replicate_succ, Array.replicate_zero, List.push_toArray, List.append_toArray, List.nil_append, List.cons_append])
  gi_wp2_with (first | with_reducible refine wpIn_scope_straight ?_ | with_reducible refine wpIn_label ?_ | ((with_reducible refine gN_box ?_); (refine sN_box hS rfl _ _ rfl _ (by go_simp; first | exact rfl | exact ⟨rfl, rfl⟩) ?_; clear hS; intro tb w' htb hS)) | (refine ⟨trivial, rfl, ?_⟩; gi_at_call 97; refine (callsIn_wide.2 (none_spec hs (fun i u hu => hS.blkCell 1 rfl _ (by rw [Nat.zero_add, List.getElem?_append_left (List.getElem?_eq_some_iff.1 hu).1]; exact hu)))).mono ?_; rintro e w' ⟨rfl, rfl⟩; rw [hd]) | ((with_reducible refine gN_load ?_); (first | (refine sN_load hS rfl _ _ rfl _ _ rfl 1 _ _ rfl _ (h8 _ _) ?_) | (refine sN_load hS rfl _ _ rfl _ _ rfl 1 _ _ rfl _ (h9 _ _) ?_) | (refine sN_load hS rfl _ _ rfl _ _ rfl 0 _ _ rfl _ rfl ?_))) | ((with_reducible refine gN_store ?_); refine sN_store hS rfl _ _ _ rfl _ _ rfl 1 _ _ rfl (.int .u64 ((m : Int) + p.length)) rfl rfl (hlen9 _ _) ?_; clear hS; intro w' hS; simp only [List.set_cons_zero, List.set_cons_succ] at hS; rw [Hset.out, ← Int.natCast_add] at hS) | (refine ⟨trivial, rfl, ?_⟩; gi_at_call 49; refine (callsIn_wide.2 (Clone_spec hS.hI hr (by omega))).mono ?_; rintro e w' ⟨ca, cc, rfl, hn⟩; replace hS := hS.pure1 hn; clear hn; refine Stop.of ?_))
  refine Stop.to ?_
  gi_wp2_with (((with_reducible refine gN_app ?_); (refine sN_append hS rfl _ _ _ rfl 0 _ _ _ rfl rfl _ _ _ _ rfl (by first | (simp; done) | (simp only [List.length_map]; omega)) ((hp').src hS.hI) (bvs_one _) (by first | omega | (simp only [List.length_append, List.length_cons, List.length_nil]; omega)) ?_; clear hS; intro ad' c' w' hS hnil hown; simp only [List.set_cons_zero] at hS)); refine Stop.of ?_)
  have hadrS := hS.adr (i := 0) rfl
  obtain ⟨K, hS1, hleK, hrd⟩ := hS.freezeRowS (by simp [blocks, Item.block])
  clear hS
  have hS := hS1
  clear hS1 hnil hown
  have hrl : RdB K (.slice ad' (r.length + p.length) c') l := hrd.asB l (by rw [Hll.out]; simp) _ rfl hln
  clear hrd
  have hcc : r.length + p.length ≤ c' ∧ (ad' = none ∨ ∃ b j, ad' = some ⟨b, j, none⟩) := by
    obtain ⟨a0, c0, e, h1, _, h3⟩ := hrl.ex
    simp only [Value.slice.injEq] at e
    obtain ⟨rfl, e, rfl⟩ := e
    exact ⟨by omega, hadrS⟩
  refine Stop.to ?_
  gi_wp2_with (first | with_reducible refine wpIn_label ?_ | (refine ⟨trivial, rfl, ?_⟩; gi_at_call 98; refine (callsIn_wide.2 (blocks_spec hS.hI)).mono ?_; rintro e w' ⟨bp, rfl, hn2⟩; replace hS := hS.pure1 hn2; clear hn2))
  have hpl : (blkV N ad' (r.length + p.length) c').length = N + 1 := blkV_len _ _ _ _
  refine wpIn_rangeN (α := Bool × Value) (gf := 119) rfl (enters_of Tryz.func119 (by kernel_rfl) rfl) (Lit := [_]) hS (fun w1 h1 => by have := blocks1_emits (I := K) (w := w1) (b := bp) hcc.1 hcc.2 (by omega); rw [← HN.out] at this; exact this) (fun _ => rfl)
    (wrInv K tb sp s l N (m + p.length)) (fun _ _ _ _ => False) ⟨Imm.Le.refl _, ra, rn, rc, by simp [blocksW], fun h => by simp at h⟩ ?round ?done ?stop
  case round =>
    clear hS
    rintro l2 pre ⟨bb, u⟩ I1 B1 w1 hpre hin1 ⟨hleK1, ra1, rn1, rc1, rfl, _⟩
    obtain ⟨q1, q2, q3⟩ := blkV_at N hrl hln h64N hpre
    rw [Nat.min_eq_left q1] at hin1 ⊢
    simp only [encB]
    gi_wp2_with fail
    refine ⟨_, _, hin1.nx, fun w2 hin2 => ?_⟩
    have hS := hin2.nx
    clear hin1 hin2
    by_cases hlt : pre.length < N
    · obtain ⟨hb, hrd⟩ := q2 hlt
      try dsimp only at hb hrd
      subst hb
      obtain ⟨ua, uc, rfl, _⟩ : ∃ ua uc, u = .slice ua 64 uc ∧ True := by
        obtain ⟨a0, c0, e, _⟩ := (hrd.mono hleK1).ex
        refine ⟨a0, c0, ?_, trivial⟩
        rw [e, List.length_take, List.length_drop]; congr 1; omega
      have hbl := blocksW_len pre.length hs l
      have hst := blocksW_snoc pre.length s l
      generalize blocksW s pre.length l = st at hS hbl hst
      have Hst := Lib.hid hst
      have hl64 : ((l.drop (64 * pre.length)).take 64).length = 64 := by rw [List.length_take, List.length_drop]; omega
      clear hst
      gi_wp2_with (first | ((with_reducible refine gN_load ?_); first | (refine sN_load hS rfl _ _ rfl _ _ rfl 0 _ _ rfl _ rfl ?_) | (refine sN_load hS rfl _ _ rfl _ _ rfl 1 _ _ rfl _ rfl ?_) | (refine sN_load hS rfl _ _ rfl _ _ rfl 2 _ _ rfl _ rfl ?_) | (refine sN_load hS rfl _ _ rfl _ _ rfl 3 _ _ rfl _ rfl ?_) | (refine sN_load hS rfl _ _ rfl _ _ rfl 4 _ _ rfl _ rfl ?_) | (refine sN_load hS rfl _ _ rfl _ _ rfl 5 _ _ rfl _ rfl ?_) | (refine sN_loadA hS rfl _ _ rfl _ _ rfl 0 _ _ rfl _ rfl rfl ?_) | (refine sN_loadA hS rfl _ _ rfl _ _ rfl 1 _ _ rfl _ rfl rfl ?_) | (refine sN_loadA hS rfl _ _ rfl _ _ rfl 2 _ _ rfl _ rfl rfl ?_) | (refine sN_loadA hS rfl _ _ rfl _ _ rfl 3 _ _ rfl _ rfl rfl ?_) | (refine sN_loadA hS rfl _ _ rfl _ _ rfl 4 _ _ rfl _ rfl rfl ?_) | (refine sN_loadA hS rfl _ _ rfl _ _ rfl 5 _ _ rfl _ rfl rfl ?_)) | (refine ⟨trivial, rfl, ?_⟩; gi_at_call 99; refine (CallsIn.inRound _ (callsIn_wide.2 (mix_spec (Init.right (L := [_]) hS.toInit) hbl (hrd.mono hleK1) hl64))).mono ?_; rintro e w' ⟨mv, J1, rfl, hn⟩; have hleJ := hn.le hS.hI; replace hS := Nx.callTail (L2 := [_]) hS hn; clear hn; simp only [List.set_cons_zero, List.set_cons_succ, List.cons_append, List.nil_append] at hS))
      rw [← Hst.out] at hS
      exact ⟨_, _, hS, hleK1.trans hleJ, _, _, _, by rw [List.length_append, List.length_singleton, Nat.min_eq_left (by omega)], fun h => by simp at h; omega⟩
    · obtain ⟨hb, hrd⟩ := q3 (by omega)
      try dsimp only at hb hrd
      subst hb
      have he : pre.length = N := by omega
      rw [he] at hS ⊢
      obtain ⟨st, hst⟩ : ∃ st, st = blocksW s N l := ⟨_, rfl⟩
      have hbl := blocksW_len N hs l
      rw [← hst] at hS hbl
      have Hst := Lib.hid hst
      have He := Lib.hid he
      clear hst he q1 q2 q3 hlt
      have hsl2 : (wvs st).length = 8 := by simp [wvs, hbl]
      have h8s : ∀ (x y : Value), (wvs st ++ [x, y]).set 8 u = wvs st ++ [u, y] := fun x y => by rw [List.set_append_right _ _ (by omega), hsl2]; rfl
      gi_wp2_with fail
      replace hS := hS.drew
      have hSS : ∀ {W : World} {J : Imm} {L0 : List Item} {I0 : Imm} {w0 : World} {B : List Item}, Nx L0 I0 w0 J (.blk tb [.pointer (some ⟨sp, 0, none⟩)] 134 :: B) W → W.cell? ⟨tb, 0, none⟩ = some (.pointer (some ⟨sp, 0, none⟩)) :=
        fun hS => hS.blkCell 0 rfl 0 rfl
      obtain ⟨t, ht⟩ : ∃ t, t = l.drop (64 * N) := ⟨_, rfl⟩
      have hln2 : t.length ≤ 1000000 := by rw [ht, List.length_drop]; omega
      rw [← ht] at hrd
      have Ht := Lib.hid ht
      clear ht
      have h8l : ∀ (x y : Value), 8 < (wvs st ++ [x, y]).length := fun x y => by simp [hsl2]
      have h8t : ∀ (x y z : Value), (wvs st ++ [x, y]).set 8 z = wvs st ++ [z, y] := fun x y z => by rw [List.set_append_right _ _ (by omega), hsl2]; rfl
      have H8t := Lib.hid h8t
      clear h8s h8t
      refine rgN_start (fun w => w.cell? ⟨tb, 0, none⟩ = some (.pointer (some ⟨sp, 0, none⟩))) [2] (by kernel_rfl) ?_
      -- P1 L0 S2 P3 P4 S5
      (refine rgN_pure (fun _ => trivial) (v := ?v1u1) 1 rfl (by kernel_rfl) (fun _ _ _ h => h) rfl ?hy1u1 ?rest1u1; (case hy1u1 => (intro w; go_simp; try with_reducible rfl)); (try simp only [Act.put, List.setIfInBounds_toArray, List.set_cons_zero, List.set_cons_succ]))
      ((first | (refine rgN_load (fun _ => trivial) 0 rfl (by kernel_rfl) rfl (by exact hSS hS) _ _ rfl _ _ rfl _ (fun w hS => hS) (fun _ _ _ h => h) ?_)); (try simp only [Act.put, List.setIfInBounds_toArray, List.set_cons_zero, List.set_cons_succ]))
      (refine rgN_step (fun _ => trivial) 2 rfl (by kernel_rfl) (fun K' hK => ?_); gi_wp2_with (first | (refine ⟨trivial, rfl, ?_⟩; gi_at_call 49; refine (CallsIn.inRound _ (callsIn_wide.2 (Clone_spec hS.hI (hrd.mono hleK1) (by omega)))).mono ?_; rintro e w' ⟨ca, cc, rfl, hn⟩; obtain ⟨K2, hS2, hle2, hrd2⟩ := hS.pureFreeze hn; clear hS hn; have hS := hS2; clear hS2) | ((with_reducible refine gN_store ?_); refine sN_store hS rfl _ _ _ rfl _ _ rfl 1 _ _ rfl (.slice ca t.length cc) rfl rfl (h8l _ _) ?_; clear hS; intro w' hS; simp only [List.set_cons_zero, List.set_cons_succ] at hS; rw [H8t.out] at hS)); (try with_reducible refine rgN_back ?_); refine hK.out _ _ (fun _ => by exact hSS hS) ?_; clear hK; clear K'; (try simp only [Act.put, List.setIfInBounds_toArray, List.set_cons_zero, List.set_cons_succ]))
      (refine rgN_pure (fun _ => trivial) (v := ?v3u1) 3 rfl (by kernel_rfl) (fun _ _ _ h => h) rfl ?hy3u1 ?rest3u1; (case hy3u1 => (intro w; go_simp; try with_reducible rfl)); (try simp only [Act.put, List.setIfInBounds_toArray, List.set_cons_zero, List.set_cons_succ]))
      (refine rgN_pure (fun _ => trivial) (v := ?v4u1) 4 rfl (by kernel_rfl) (fun _ _ _ h => h) rfl ?hy4u1 ?rest4u1; (case hy4u1 => (intro w; go_simp; try with_reducible rfl)); (try simp only [Act.put, List.setIfInBounds_toArray, List.set_cons_zero, List.set_cons_succ]))
      (refine rgN_step (fun _ => trivial) 5 rfl (by kernel_rfl) (fun K' hK => ?_); gi_wp2_with (first | (refine ⟨trivial, rfl, ?_⟩; gi_at_call 49; refine (CallsIn.inRound _ (callsIn_wide.2 (Clone_spec hS.hI (hrd.mono hleK1) (by omega)))).mono ?_; rintro e w' ⟨ca, cc, rfl, hn⟩; obtain ⟨K2, hS2, hle2, hrd2⟩ := hS.pureFreeze hn; clear hS hn; have hS := hS2; clear hS2) | ((with_reducible refine gN_store ?_); refine sN_store hS rfl _ _ _ rfl _ _ rfl 1 _ _ rfl (.slice ca t.length cc) rfl rfl (h8l _ _) ?_; clear hS; intro w' hS; simp only [List.set_cons_zero, List.set_cons_succ] at hS; rw [H8t.out] at hS)); (try with_reducible refine rgN_back ?_); refine hK.out _ _ (fun h => absurd h (by decide)) ?_; clear hK; clear K'; (try simp only [Act.put, List.setIfInBounds_toArray, List.set_cons_zero, List.set_cons_succ]))
      refine rgN_done (by kernel_rfl) ?_
      gi_wp2_with fail
      rw [Hst.out] at hS
      exact ⟨_, _, hS, hleK1.trans hle2, _, _, _, by rw [List.length_append, List.length_singleton, He.out, Nat.min_eq_right (by omega)], fun _ => by rw [← Ht.out]; exact hrd2⟩
  case done =>
    clear hS
    rintro D J B' w' hS ⟨hleJ, ra1, rn1, rc1, rfl, hlast⟩
    rw [hpl] at hlast hS
    rw [Nat.min_eq_right (by omega)] at hS
    have hrd1 := hlast rfl
    gi_wp2_with ((with_reducible refine gN_load ?_); first | (refine sN_load hS rfl _ _ rfl _ _ rfl 0 _ _ rfl _ rfl ?_) | (refine sN_load hS rfl _ _ rfl _ _ rfl 1 _ _ rfl _ rfl ?_) | (refine sN_load hS rfl _ _ rfl _ _ rfl 2 _ _ rfl _ rfl ?_) | (refine sN_load hS rfl _ _ rfl _ _ rfl 3 _ _ rfl _ rfl ?_) | (refine sN_load hS rfl _ _ rfl _ _ rfl 4 _ _ rfl _ rfl ?_) | (refine sN_load hS rfl _ _ rfl _ _ rfl 5 _ _ rfl _ rfl ?_) | (refine sN_loadA hS rfl _ _ rfl _ _ rfl 0 _ _ rfl _ rfl rfl ?_) | (refine sN_loadA hS rfl _ _ rfl _ _ rfl 1 _ _ rfl _ rfl rfl ?_) | (refine sN_loadA hS rfl _ _ rfl _ _ rfl 2 _ _ rfl _ rfl rfl ?_) | (refine sN_loadA hS rfl _ _ rfl _ _ rfl 3 _ _ rfl _ rfl rfl ?_) | (refine sN_loadA hS rfl _ _ rfl _ _ rfl 4 _ _ rfl _ rfl rfl ?_) | (refine sN_loadA hS rfl _ _ rfl _ _ rfl 5 _ _ rfl _ rfl rfl ?_))
    have hK : w'.heap[D]? = some (.deferred (some [])) := hS.get (i := 0) rfl
    have hS2 := ((hS.putObj (i := 0) rfl (.deferred none)).drop)
    exact ⟨by simp, .inl ⟨_, _, rfl, run_takeDeferred hK, ⟨_, results_tmp rfl _ _ _, rfl, J, ra1, rn1, rc1, hrd1, hS2.drop⟩⟩⟩
  case stop => 
    rintro D c pre J B' w' hS hpre ⟨⟩
end Go.Proofs.YtmlgieclkedomaaGreat
