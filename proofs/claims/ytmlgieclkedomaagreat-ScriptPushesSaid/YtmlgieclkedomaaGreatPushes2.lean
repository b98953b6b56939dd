/- What the statement's proof stands on, part 2: contracts of the program's functions, and plain laws. -/
import Derived.LoopIn
import Derived.LoopNIn
import Derived.ChangeKeysEq
import Derived.Laws.IdiomStrings
import Derived.Great.FillDense
import Derived.Laws.BitsAllLaws
import Derived.Lib.SliceRun
import Derived.Test.YtmlgieclkedomaaGreatPushes1
set_option linter.unusedVariables false
set_option linter.unusedSimpArgs false
namespace Go.Proofs.YtmlgieclkedomaaGreat
open Go Go.RowKit
attribute [local go_sem] Oper.semAt_some

def backL (xs : List Value) : List (Nat × Value) := (List.range xs.length).map fun m => (xs.length - 1 - m, xs.getD (xs.length - 1 - m) undef)
def downL (xs : List Value) : List (Nat × Value) := (List.range xs.length).map fun m => (m, xs.getD (xs.length - 1 - m) undef)
def encN (x : Nat × Value) : Array Value := #[.int .i64 x.1, x.2]
theorem take_range_map {α : Type} (f : Nat → α) (n m : Nat) (h : m < n) : ((List.range n).map f).take m ++ [f m] = ((List.range n).map f).take (m + 1) := by
  rw [List.take_succ_eq_append_getElem (by simpa using h)]
  simp
theorem Nx.headCell {L0 : List Item} {I0 I : Imm} {w0 w : World} {L : List Item} (h : Nx L0 I0 w0 I L w) {i sz m c g : Nat} {e : TypeId} {xs : List Value} (hi : L[i]? = some (.row sz e (.slice (some ⟨g, 0, none⟩) m c) m xs)) {j : Nat} {v : Value} (hv : xs[j]? = some v) :
    w.cell? ⟨g, 0 + j, none⟩ = some v := by rw [Nat.zero_add]; exact h.rowCell hi j v hv

theorem back1_emits {I : Imm} {w : World} {b : Nat} {ad : Option Addr} {n c : Nat} {xs : List Value} (hn : xs.length = n) (hl : n ≤ 1000000) :
    EmitsK Tryz.prog 140 #[.pointer (some ⟨b, 0, none⟩)] encN I w [.row 1 22 (.slice ad n c) n xs, .blk b [.slice ad n c] 24] [.row 1 22 (.slice ad n c) n xs, .blk b [.slice ad n c] 24] (backL xs) := by
  intro l Inv Bad B hY hin h0
  have hS := hin.nx
  simp only [List.cons_append, List.nil_append] at hS
  have hI0 := hin.hI
  (refine callsIn_of_wp Tryz.func140 rfl trivial ?_; simp only [Tryz.ntmps140, List.size_toArray, List.length_cons, List.length_nil, Nat.reduceAdd, Nat.reduceSub, Array.replicate_succ, Array.replicate_zero, List.push_toArray, List.append_toArray, List.nil_append, List.cons_append])
  gi_wp2_with ((with_reducible refine gN_load ?_); first | (refine sN_load hS rfl _ _ rfl _ _ rfl 0 _ _ rfl _ rfl ?_) | (refine sN_load hS rfl _ _ rfl _ _ rfl 1 _ _ rfl _ rfl ?_) | (refine sN_load hS rfl _ _ rfl _ _ rfl 2 _ _ rfl _ rfl ?_) | (refine sN_load hS rfl _ _ rfl _ _ rfl 3 _ _ rfl _ rfl ?_) | (refine sN_load hS rfl _ _ rfl _ _ rfl 4 _ _ rfl _ rfl ?_) | (refine sN_load hS rfl _ _ rfl _ _ rfl 5 _ _ rfl _ rfl ?_) | (refine sN_loadA hS rfl _ _ rfl _ _ rfl 0 _ _ rfl _ rfl rfl ?_) | (refine sN_loadA hS rfl _ _ rfl _ _ rfl 1 _ _ rfl _ rfl rfl ?_) | (refine sN_loadA hS rfl _ _ rfl _ _ rfl 2 _ _ rfl _ rfl rfl ?_) | (refine sN_loadA hS rfl _ _ rfl _ _ rfl 3 _ _ rfl _ rfl rfl ?_) | (refine sN_loadA hS rfl _ _ rfl _ _ rfl 4 _ _ rfl _ rfl rfl ?_) | (refine sN_loadA hS rfl _ _ rfl _ _ rfl 5 _ _ rfl _ rfl rfl ?_))
  gi_loopw [3] (fun v3 wr => ∃ m J B', m ≤ n ∧ v3 = .int .i64 ((n : Int) - 1 - m) ∧ Nx (.row 1 22 (.slice ad n c) n xs :: .blk b [.slice ad n c] 24 :: B) I w J (.row 1 22 (.slice ad n c) n xs :: .blk b [.slice ad n c] 24 :: B') wr ∧ Inv ((backL xs).take m) J B') (fun v3 _ => (intOf v3 + 1).toNat)
  case atStart => exact ⟨0, I, B, by omega, by simp, hS, by simpa using h0⟩
  case round =>
    clear hS
    obtain ⟨m, J, B', hm, rfl, hS, hInv⟩ := hrel
    by_cases hlt : m < n
    · obtain ⟨g, rfl, hc⟩ := hS.row_ad (i := 0) rfl (by omega)
      obtain ⟨k, hk⟩ : ∃ k, k = n - 1 - m := ⟨_, rfl⟩
      have hkn : k < xs.length := by omega
      have hcell := hS.headCell (i := 0) rfl (j := k) (v := xs.getD k undef) (by simp [hkn])
      have hki : (n : Int) - 1 - m = (k : Nat) := by omega
      have hpre : (backL xs).take m ++ [(k, xs.getD k undef)] <+: backL xs := by
        have := take_range_map (fun m => (xs.length - 1 - m, xs.getD (xs.length - 1 - m) undef)) xs.length m (by omega)
        rw [show (xs.length - 1 - m) = k by omega] at this
        unfold backL
        rw [this]
        exact List.take_prefix _ _
      have Hk := Lib.hid hk
      have hst : (backL xs).take m ++ [(k, xs.getD k undef)] = (backL xs).take (m + 1) := by
        have := take_range_map (fun m => (xs.length - 1 - m, xs.getD (xs.length - 1 - m) undef)) xs.length m (by omega)
        rw [show (xs.length - 1 - m) = k by omega] at this
        exact this
      rw [hki]
      rw [Nat.zero_add] at hcell
      clear hk hki
      gi_wp2_with (first | (refine sN_loadC rfl _ _ rfl _ _ rfl _ hcell ?_) | ((with_reducible refine gN_load ?_); first | (refine sN_load hS rfl _ _ rfl _ _ rfl 0 _ _ rfl _ rfl ?_) | (refine sN_load hS rfl _ _ rfl _ _ rfl 1 _ _ rfl _ rfl ?_) | (refine sN_load hS rfl _ _ rfl _ _ rfl 2 _ _ rfl _ rfl ?_) | (refine sN_load hS rfl _ _ rfl _ _ rfl 3 _ _ rfl _ rfl ?_) | (refine sN_load hS rfl _ _ rfl _ _ rfl 4 _ _ rfl _ rfl ?_) | (refine sN_load hS rfl _ _ rfl _ _ rfl 5 _ _ rfl _ rfl ?_) | (refine sN_loadA hS rfl _ _ rfl _ _ rfl 0 _ _ rfl _ rfl rfl ?_) | (refine sN_loadA hS rfl _ _ rfl _ _ rfl 1 _ _ rfl _ rfl rfl ?_) | (refine sN_loadA hS rfl _ _ rfl _ _ rfl 2 _ _ rfl _ rfl rfl ?_) | (refine sN_loadA hS rfl _ _ rfl _ _ rfl 3 _ _ rfl _ rfl rfl ?_) | (refine sN_loadA hS rfl _ _ rfl _ _ rfl 4 _ _ rfl _ rfl rfl ?_) | (refine sN_loadA hS rfl _ _ rfl _ _ rfl 5 _ _ rfl _ rfl rfl ?_)))
      refine hY.at (Lit := [_, _]) hS (k, xs.getD k undef) hpre hInv (by simp [encN]) (fun J2 B2 w2 hS2 hI2 => ?_) (fun J2 B2 w2 hS2 hb2 => ?_)
      · gi_wp2_with fail
        have hk := Hk.out
        refine ⟨⟨m + 1, J2, B2, hlt, by simp; omega, hS2, by rw [← hst]; exact hI2⟩, ?_⟩
        simp [intOf]
      · gi_wp2_with fail
        exact bodyPost_ret (results_none rfl _ _ _) rfl ⟨⟨_, rfl⟩, J2, B2, hS2, .inr ⟨_, hpre, hb2⟩⟩
    · obtain rfl : m = n := by omega
      gi_wp2_with fail
      refine bodyPost_end (results_none rfl _ _ _) rfl ⟨⟨_, rfl⟩, J, B', hS, .inl ?_⟩
      rw [List.take_of_length_le (by simp [backL]; omega)] at hInv
      exact hInv

/-- slices.Backward's function -/
theorem Backward_spec {I : Imm} {w : World} (hI : I.Holds w) {ad : Option Addr} {n c : Nat} :
    Calls Tryz.prog 118 #[.slice ad n c] w fun e w' => ∃ b, e = .returned (.func (.func 140) #[] #[.pointer (some ⟨b, 0, none⟩)]) ∧ Nx [] I w I [.blk b [.slice ad n c] 24] w' := by
  have hS := Nx.nil hI
  have hmf : ∀ (fn : Fn) (first cap : Array Value) (w : World), (Instr.makeFunc fn first cap).run Tryz.prog w = .ok (.func fn first cap) w := fun _ _ _ _ => rfl
  go_enter Tryz.func118, Tryz.ntmps118
  go_wp2_with ((with_reducible refine gL_box ?_); (refine sL_box hS rfl _ _ rfl _ (by go_simp; first | exact rfl | exact ⟨rfl, rfl⟩) ?_; clear hS; intro b w' hb hS))
  go_ret
  exact ⟨b, rfl, hS⟩
theorem down_spec {I : Imm} {w : World} (hI : I.Holds w) {p : Option Addr} :
    Calls Tryz.prog 95 #[.pointer p] w fun e w' => ∃ b, e = .returned (.func (.func 117) #[] #[.pointer (some ⟨b, 0, none⟩)]) ∧ Nx [] I w I [.blk b [.pointer p] 127] w' := by
  have hS := Nx.nil hI
  have hmf : ∀ (fn : Fn) (first cap : Array Value) (w : World), (Instr.makeFunc fn first cap).run Tryz.prog w = .ok (.func fn first cap) w := fun _ _ _ _ => rfl
  go_enter Tryz.func95, Tryz.ntmps95
  go_wp2_with ((with_reducible refine gL_box ?_); (refine sL_box hS rfl _ _ rfl _ (by go_simp; first | exact rfl | exact ⟨rfl, rfl⟩) ?_; clear hS; intro b w' hb hS))
  go_ret
  exact ⟨b, rfl, hS⟩

def downInv (Inv : List (Nat × Value) → Imm → List Item → Prop) (i1 i2 i3 : Item) (xs : List Value) (pre : List (Nat × Value)) (J : Imm) (B : List Item) : Prop :=
  ∃ B1, B = i1 :: i2 :: i3 :: B1 ∧ Inv ((downL xs).take pre.length) J B1
def downBad (Bad : List (Nat × Value) → Imm → List Item → Prop) (i1 i2 i3 : Item) (xs : List Value) (c : Code) (pre : List (Nat × Value)) (J : Imm) (B : List Item) : Prop :=
  c = .ret ∧ ∃ B1, B = i1 :: i2 :: i3 :: B1 ∧ ∃ p, p <+: downL xs ∧ Bad p J B1
theorem downL_len (xs : List Value) : (downL xs).length = xs.length := by simp [downL]
theorem backL_len (xs : List Value) : (backL xs).length = xs.length := by simp [backL]
theorem backL_at {xs : List Value} {pre : List (Nat × Value)} {x : Nat × Value} (h : (pre ++ [x]) <+: backL xs) : pre.length < xs.length ∧ x = (xs.length - 1 - pre.length, xs.getD (xs.length - 1 - pre.length) undef) := by
  have hl := h.length_le
  rw [backL_len] at hl
  simp at hl
  refine ⟨by omega, ?_⟩
  have h1 := List.IsPrefix.getElem h (i := pre.length) (by simp)
  simp [backL] at h1
  rw [h1]; simp
theorem downL_step (xs : List Value) (m : Nat) (h : m < xs.length) : (downL xs).take m ++ [(m, xs.getD (xs.length - 1 - m) undef)] = (downL xs).take (m + 1) := by
  have := take_range_map (fun m => (m, xs.getD (xs.length - 1 - m) undef)) xs.length m h
  exact this

theorem down1_emits {I : Imm} {w : World} {b sp j : Nat} {T : TypeId} {cs : List Value} {ad : Option Addr} {n c : Nat} {xs : List Value} (hj : cs[j]? = some (.slice ad n c)) (hn : xs.length = n) (hl : n ≤ 1000000) :
    EmitsK Tryz.prog 117 #[.pointer (some ⟨b, 0, none⟩)] encN I w [.blk sp cs T, .row 1 22 (.slice ad n c) n xs, .blk b [.pointer (some ⟨sp, j, none⟩)] 127] [.blk sp cs T, .row 1 22 (.slice ad n c) n xs] (downL xs) := by
  intro l Inv Bad B hY hin h0
  have hS := hin.nx
  simp only [List.cons_append, List.nil_append] at hS
  have hI0 := hin.hI
  (refine callsIn_of_wp_marks Tryz.func117 rfl trivial ?_; simp only [Tryz.ntmps117, List.size_toArray, List.length_cons, List.length_nil, Nat.reduceAdd, Nat.reduceSub, Array.replicate_succ, Array.replicate_zero, List.push_toArray, List.append_toArray, List.nil_append, List.cons_append])
  gi_wp2_with (first | ((with_reducible refine gN_box ?_); (refine sN_box hS rfl _ _ rfl _ (by go_simp; first | exact rfl | exact ⟨rfl, rfl⟩) ?_; clear hS; intro yb w' hyb hS)) | (refine sN_load hS rfl _ _ rfl _ _ rfl 1 _ _ rfl _ hj ?_) | ((with_reducible refine gN_load ?_); first | (refine sN_load hS rfl _ _ rfl _ _ rfl 0 _ _ rfl _ rfl ?_) | (refine sN_load hS rfl _ _ rfl _ _ rfl 1 _ _ rfl _ rfl ?_) | (refine sN_load hS rfl _ _ rfl _ _ rfl 2 _ _ rfl _ rfl ?_) | (refine sN_load hS rfl _ _ rfl _ _ rfl 3 _ _ rfl _ rfl ?_) | (refine sN_load hS rfl _ _ rfl _ _ rfl 4 _ _ rfl _ rfl ?_) | (refine sN_load hS rfl _ _ rfl _ _ rfl 5 _ _ rfl _ rfl ?_) | (refine sN_loadA hS rfl _ _ rfl _ _ rfl 0 _ _ rfl _ rfl rfl ?_) | (refine sN_loadA hS rfl _ _ rfl _ _ rfl 1 _ _ rfl _ rfl rfl ?_) | (refine sN_loadA hS rfl _ _ rfl _ _ rfl 2 _ _ rfl _ rfl rfl ?_) | (refine sN_loadA hS rfl _ _ rfl _ _ rfl 3 _ _ rfl _ rfl rfl ?_) | (refine sN_loadA hS rfl _ _ rfl _ _ rfl 4 _ _ rfl _ rfl rfl ?_) | (refine sN_loadA hS rfl _ _ rfl _ _ rfl 5 _ _ rfl _ rfl rfl ?_)) | (refine ⟨trivial, rfl, ?_⟩; gi_at_call 118; refine (callsIn_wide.2 (Backward_spec hS.hI)).mono ?_; rintro e w' ⟨b2, rfl, hn2⟩; replace hS := hS.pure1 hn2; clear hn2))
  have hS := hS.front 3 rfl
  simp only [List.eraseIdx_cons_succ, List.eraseIdx_cons_zero] at hS
  refine wpIn_rangeK (α := Nat × Value) (gf := 140) rfl (enters_of Tryz.func140 (by kernel_rfl) rfl) (Lit := [_, _]) (Lit' := [_, _]) hS (fun w1 h1 => back1_emits hn hl) (fun _ => rfl)
    (downInv Inv (.blk yb [.func (.yield l) #[] #[]] 179) (.blk sp cs T) (.blk b [.pointer (some ⟨sp, j, none⟩)] 127) xs) (downBad Bad (.blk yb [.func (.yield l) #[] #[]] 179) (.blk sp cs T) (.blk b [.pointer (some ⟨sp, j, none⟩)] 127) xs) ⟨B, rfl, ?_⟩ ?round ?done ?stop
  · simpa using h0
  case round =>
    clear hS
    rintro l2 pre ⟨i, v⟩ I1 B1 w1 hpre hin1 ⟨B2, rfl, hInv⟩
    obtain ⟨hlt, hx⟩ := backL_at hpre
    obtain ⟨rfl, rfl⟩ := Prod.mk.inj hx
    obtain ⟨i, hi⟩ : ∃ i, i = xs.length - 1 - pre.length := ⟨_, rfl⟩
    obtain ⟨v, hv⟩ : ∃ v, v = xs.getD (xs.length - 1 - pre.length) undef := ⟨_, rfl⟩
    rw [← hv, ← hi]
    have Hi := Lib.hid hi
    have Hv := Lib.hid hv
    have Hpre := Lib.hid hpre
    clear hi hv hpre hx
    simp only [encN]
    gi_wp2_with fail
    refine ⟨_, _, hin1.nx, fun w2 hin2 => ?_⟩
    have hS := hin2.nx
    clear hin1 hin2
    gi_wp2_with fail
    replace hS := hS.drew
    have hSS : ∀ {W : World} {J : Imm} {B2 : List Item} {L0 : List Item} {I0 : Imm} {w0 : World}, Nx L0 I0 w0 J (.blk yb [.func (.yield l) #[] #[]] 179 :: .blk sp cs T :: .blk b [.pointer (some ⟨sp, j, none⟩)] 127 :: B2) W → W.cell? ⟨yb, 0, none⟩ = some (.func (.yield l) #[] #[]) ∧ W.cell? ⟨b, 0, none⟩ = some (.pointer (some ⟨sp, j, none⟩)) ∧ W.cell? ⟨sp, j, none⟩ = some (.slice ad n c) :=
      fun hS => ⟨hS.blkCell 0 rfl 0 rfl, hS.blkCell 2 rfl 0 rfl, hS.blkCell 1 rfl j hj⟩
    refine rgN_start (fun w => w.cell? ⟨yb, 0, none⟩ = some (.func (.yield l) #[] #[]) ∧ w.cell? ⟨b, 0, none⟩ = some (.pointer (some ⟨sp, j, none⟩)) ∧ w.cell? ⟨sp, j, none⟩ = some (.slice ad n c)) [1, 2, 3, 4, 5, 6, 8, 10, 11] (by kernel_rfl) ?_
    -- P7 P9 L0 L1 P2 P3 L4 P5 P6 P8 S10 P11
    (refine rgN_pure (fun _ => trivial) (v := ?v7u3) 7 rfl (by kernel_rfl) (fun _ _ _ h => h) rfl ?hy7u3 ?rest7u3; (case hy7u3 => (intro w; go_simp; try with_reducible rfl)); (try simp only [Act.put, List.setIfInBounds_toArray, List.set_cons_zero, List.set_cons_succ]))
    (refine rgN_pure (fun _ => trivial) (v := ?v9u3) 9 rfl (by kernel_rfl) (fun _ _ _ h => h) rfl ?hy9u3 ?rest9u3; (case hy9u3 => (intro w; go_simp; try with_reducible rfl)); (try simp only [Act.put, List.setIfInBounds_toArray, List.set_cons_zero, List.set_cons_succ]))
    ((first | (refine rgN_load (fun _ => trivial) 0 rfl (by kernel_rfl) rfl (by exact hSS hS) _ _ rfl _ _ rfl _ (fun w hS => hS.1) (fun _ _ _ h => h) ?_) | (refine rgN_load (fun _ => trivial) 0 rfl (by kernel_rfl) rfl (by exact hSS hS) _ _ rfl _ _ rfl _ (fun w hS => hS.2.1) (fun _ _ _ h => h) ?_) | (refine rgN_load (fun _ => trivial) 0 rfl (by kernel_rfl) rfl (by exact hSS hS) _ _ rfl _ _ rfl _ (fun w hS => hS.2.2) (fun _ _ _ h => h) ?_)); (try simp only [Act.put, List.setIfInBounds_toArray, List.set_cons_zero, List.set_cons_succ]))
    ((first | (refine rgN_load (fun _ => trivial) 1 rfl (by kernel_rfl) rfl (by exact hSS hS) _ _ rfl _ _ rfl _ (fun w hS => hS.1) (fun _ _ _ h => h) ?_) | (refine rgN_load (fun _ => trivial) 1 rfl (by kernel_rfl) rfl (by exact hSS hS) _ _ rfl _ _ rfl _ (fun w hS => hS.2.1) (fun _ _ _ h => h) ?_) | (refine rgN_load (fun _ => trivial) 1 rfl (by kernel_rfl) rfl (by exact hSS hS) _ _ rfl _ _ rfl _ (fun w hS => hS.2.2) (fun _ _ _ h => h) ?_)); (try simp only [Act.put, List.setIfInBounds_toArray, List.set_cons_zero, List.set_cons_succ]))
    (refine rgN_pureS (fun _ => trivial) (v := ?v2u3) 2 rfl (by kernel_rfl) (fun _ _ _ h => h) rfl (by exact hSS hS) ?hy2u3 ?rest2u3; (case hy2u3 => (intro w; go_simp; try with_reducible rfl)); (try simp only [Act.put, List.setIfInBounds_toArray, List.set_cons_zero, List.set_cons_succ]))
    (refine rgN_pureS (fun _ => trivial) (v := ?v3u3) 3 rfl (by kernel_rfl) (fun _ _ _ h => h) rfl (by exact hSS hS) ?hy3u3 ?rest3u3; (case hy3u3 => (intro w; go_simp; try with_reducible rfl)); (try simp only [Act.put, List.setIfInBounds_toArray, List.set_cons_zero, List.set_cons_succ]))
    ((first | (refine rgN_load (fun _ => trivial) 4 rfl (by kernel_rfl) rfl (by exact hSS hS) _ _ rfl _ _ rfl _ (fun w hS => hS.1) (fun _ _ _ h => h) ?_) | (refine rgN_load (fun _ => trivial) 4 rfl (by kernel_rfl) rfl (by exact hSS hS) _ _ rfl _ _ rfl _ (fun w hS => hS.2.1) (fun _ _ _ h => h) ?_) | (refine rgN_load (fun _ => trivial) 4 rfl (by kernel_rfl) rfl (by exact hSS hS) _ _ rfl _ _ rfl _ (fun w hS => hS.2.2) (fun _ _ _ h => h) ?_)); (try simp only [Act.put, List.setIfInBounds_toArray, List.set_cons_zero, List.set_cons_succ]))
    (refine rgN_pureS (fun _ => trivial) (v := ?v5u3) 5 rfl (by kernel_rfl) (fun _ _ _ h => h) rfl (by exact hSS hS) ?hy5u3 ?rest5u3; (case hy5u3 => (intro w; go_simp; try with_reducible rfl)); (try simp only [Act.put, List.setIfInBounds_toArray, List.set_cons_zero, List.set_cons_succ]))
    (refine rgN_pureS (fun _ => trivial) (v := ?v6u3) 6 rfl (by kernel_rfl) (fun _ _ _ h => h) rfl (by exact hSS hS) ?hy6u3 ?rest6u3; (case hy6u3 => (intro w; go_simp; try with_reducible rfl)); (try simp only [Act.put, List.setIfInBounds_toArray, List.set_cons_zero, List.set_cons_succ]))
    (refine rgN_pureS (fun _ => trivial) (v := ?v8u3) 8 rfl (by kernel_rfl) (fun _ _ _ h => h) rfl (by exact hSS hS) ?hy8u3 ?rest8u3; (case hy8u3 => (intro w; go_simp; try with_reducible rfl)); (try simp only [Act.put, List.setIfInBounds_toArray, List.set_cons_zero, List.set_cons_succ]))
    refine rgN_step (fun _ => trivial) 10 rfl (by kernel_rfl) (fun K' hK => ?_)
    gi_wp2_with fail
    have hm : (downL xs).take pre.length ++ [(pre.length, v)] = (downL xs).take (pre.length + 1) := by rw [Hv.out]; exact downL_step xs _ hlt
    refine hY.atR (Lit := [_, _, _]) hS (pre.length, v) (by rw [hm]; exact List.take_prefix _ _) hInv ?_ (fun J3 B3 w3 hS3 hI3 => ?_) (fun J3 B3 w3 hS3 hb3 => ?_)
    · have := Hi.out
      simp only [encN]
      rw [IntWalk.wrap64_in _ (by omega), show (n : Int) - 1 - i = (pre.length : Nat) by omega]
    · gi_wp2_with fail
      (try with_reducible refine rgN_back ?_); refine hK.out _ _ (fun _ => by exact hSS hS3) ?_; clear hK; clear K'; (try simp only [Act.put, List.setIfInBounds_toArray, List.set_cons_zero, List.set_cons_succ])
      (refine rgN_pureS (fun _ => trivial) (v := ?v11u1) 11 rfl (by kernel_rfl) (fun _ _ _ h => h) rfl (by exact hSS hS3) ?hy11u1 ?rest11u1; (case hy11u1 => (intro w; go_simp; try with_reducible rfl)); (try simp only [Act.put, List.setIfInBounds_toArray, List.set_cons_zero, List.set_cons_succ]))
      refine rgN_done (by kernel_rfl) ?_
      gi_wp2_with fail
      exact ⟨_, _, hS3, B3, rfl, by rw [List.length_append, List.length_singleton, ← hm]; exact hI3⟩
    · gi_wp2_with fail
      (try with_reducible refine rgN_back ?_); refine hK.out _ _ (fun _ => by exact hSS hS3) ?_; clear hK; clear K'; (try simp only [Act.put, List.setIfInBounds_toArray, List.set_cons_zero, List.set_cons_succ])
      (refine rgN_pureS (fun _ => trivial) (v := ?v11u2) 11 rfl (by kernel_rfl) (fun _ _ _ h => h) rfl (by exact hSS hS3) ?hy11u2 ?rest11u2; (case hy11u2 => (intro w; go_simp; try with_reducible rfl)); (try simp only [Act.put, List.setIfInBounds_toArray, List.set_cons_zero, List.set_cons_succ]))
      refine rgN_done (by kernel_rfl) ?_
      gi_wp2_with fail
      exact ⟨_, _, hS3, rfl, B3, rfl, _, by rw [hm]; exact List.take_prefix _ _, hb3⟩
  case done =>
    clear hS
    rintro D J B' w' hS ⟨B2, rfl, hInv⟩
    gi_wp2_with fail
    have hK : w'.heap[D]? = some (.deferred (some [])) := hS.get (i := 0) rfl
    have hS2 := ((hS.putObj (i := 0) rfl (.deferred none)).drop)
    refine ⟨by simp, .inl ⟨_, _, rfl, run_takeDeferred hK, ⟨_, results_none rfl _ _ _, ⟨_, rfl⟩, J, B2, ?_, .inl ?_⟩⟩⟩
    · exact (((hS2.dropAt 1 rfl).dropAt 1 rfl).dropAt 2 rfl).swap
    · rw [backL_len, ← downL_len, List.take_length] at hInv
      exact hInv
  case stop =>
    clear hS
    rintro D c pre J B' w' hS hpre ⟨rfl, B2, rfl, p, hp, hbad⟩
    gi_wp2_with fail
    have hK : w'.heap[D]? = some (.deferred (some [])) := hS.get (i := 0) rfl
    have hS2 := ((hS.putObj (i := 0) rfl (.deferred none)).drop)
    exact ⟨by simp, .inl ⟨_, _, rfl, run_takeDeferred hK, ⟨_, results_none rfl _ _ _, ⟨_, rfl⟩, J, B2, (((hS2.dropAt 1 rfl).dropAt 1 rfl).dropAt 2 rfl).swap, .inr ⟨p, hp, hbad⟩⟩⟩⟩
end Go.Proofs.YtmlgieclkedomaaGreat

namespace Go.Proofs.YtmlgieclkedomaaGreat
open Go Go.RowKit
attribute [local go_sem] Oper.semAt_some

theorem downL_at {xs : List Value} {pre : List (Nat × Value)} {x : Nat × Value} (h : (pre ++ [x]) <+: downL xs) : pre.length < xs.length ∧ x = (pre.length, xs.getD (xs.length - 1 - pre.length) undef) := by
  have hl := h.length_le
  rw [downL_len] at hl
  simp at hl
  refine ⟨by omega, ?_⟩
  have h1 := List.IsPrefix.getElem h (i := pre.length) (by simp)
  simp [downL] at h1
  rw [h1]; simp
def belInv (I : Imm) (bo bn k : Nat) (pre : List (Nat × Value)) (J : Imm) (B : List Item) : Prop :=
  J = I ∧ pre.length ≤ k ∧ B = [.blk bo [.slice none 0 0] 22, .blk bn [.int .i64 k] 3]
def belBad (I : Imm) (bo bn k : Nat) (v : Value) (c : Code) (pre : List (Nat × Value)) (J : Imm) (B : List Item) : Prop :=
  c = .exit 0 ∧ J = I ∧ B = [.blk bo [v] 22, .blk bn [.int .i64 k] 3]

theorem below_spec {I : Imm} {w : World} {sp j : Nat} {cs : List Value} {T : TypeId} {ad : Option Addr} {n c : Nat} {xs : List Value} (hin : Init I [.blk sp cs T, .row 1 22 (.slice ad n c) n xs] w) (hj : cs[j]? = some (.slice ad n c)) (hl : n ≤ 1000000) {k : Nat} (hk : k < n) {v : Value} (hv : xs[n - 1 - k]? = some v) (h1 : v.oneCell' = true) :
    Calls Tryz.prog 76 #[.pointer (some ⟨sp, j, none⟩), .int .i64 k] w fun e w' => e = .returned v ∧ Nx [.blk sp cs T, .row 1 22 (.slice ad n c) n xs] I w I [.blk sp cs T, .row 1 22 (.slice ad n c) n xs] w' := by
  refine (callsIn_wide (n := 0)).1 ?_
  have hS := hin.nx
  have hn : xs.length = n := by obtain ⟨_, _, _, _, h, _⟩ := hS.rowVal (i := 1) rfl; omega
  have Hv := Lib.hid hv
  clear hv
  (refine callsIn_of_wp_marks Tryz.func76 rfl trivial ?_; simp only [Tryz.ntmps76, List.size_toArray, List.length_cons, List.length_nil, Nat.reduceAdd, Nat.reduceSub, Array.replicate_succ, Array.replicate_zero, List.push_toArray, List.append_toArray, List.nil_append, List.cons_append])
  gi_wp2_with (first | ((with_reducible refine gN_box ?_); (refine sN_box hS rfl _ _ rfl _ (by go_simp; first | exact rfl | exact ⟨rfl, rfl⟩) ?_; clear hS; intro bn w' hbn hS)) | (refine sN_alloc hS rfl 22 rfl ?_; clear hS; intro bo w' hbo hS) | (first | with_reducible refine wpIn_scope_straight ?_ | with_reducible refine wpIn_label ?_ | ((with_reducible refine gN_load ?_); first | (refine sN_load hS rfl _ _ rfl _ _ rfl 0 _ _ rfl _ rfl ?_) | (refine sN_load hS rfl _ _ rfl _ _ rfl 1 _ _ rfl _ rfl ?_) | (refine sN_load hS rfl _ _ rfl _ _ rfl 2 _ _ rfl _ rfl ?_) | (refine sN_load hS rfl _ _ rfl _ _ rfl 3 _ _ rfl _ rfl ?_) | (refine sN_load hS rfl _ _ rfl _ _ rfl 4 _ _ rfl _ rfl ?_) | (refine sN_load hS rfl _ _ rfl _ _ rfl 5 _ _ rfl _ rfl ?_) | (refine sN_loadA hS rfl _ _ rfl _ _ rfl 0 _ _ rfl _ rfl rfl ?_) | (refine sN_loadA hS rfl _ _ rfl _ _ rfl 1 _ _ rfl _ rfl rfl ?_) | (refine sN_loadA hS rfl _ _ rfl _ _ rfl 2 _ _ rfl _ rfl rfl ?_) | (refine sN_loadA hS rfl _ _ rfl _ _ rfl 3 _ _ rfl _ rfl rfl ?_) | (refine sN_loadA hS rfl _ _ rfl _ _ rfl 4 _ _ rfl _ rfl rfl ?_) | (refine sN_loadA hS rfl _ _ rfl _ _ rfl 5 _ _ rfl _ rfl rfl ?_)) | ((with_reducible refine gN_store ?_); first | (refine sN_store hS rfl _ _ _ rfl _ _ rfl 0 _ _ rfl _ (by go_simp; first | exact rfl | exact ⟨rfl, rfl⟩) rfl (by simp) ?_; clear hS; intro w' hS; simp only [List.set_cons_zero] at hS) | (refine sN_store hS rfl _ _ _ rfl _ _ rfl 1 _ _ rfl _ (by go_simp; first | exact rfl | exact ⟨rfl, rfl⟩) rfl (by simp) ?_; clear hS; intro w' hS; simp only [List.set_cons_zero, List.set_cons_succ] at hS) | (refine sN_store hS rfl _ _ _ rfl _ _ rfl 2 _ _ rfl _ (by go_simp; first | exact rfl | exact ⟨rfl, rfl⟩) rfl (by simp) ?_; clear hS; intro w' hS; simp only [List.set_cons_zero, List.set_cons_succ] at hS) | (refine sN_store hS rfl _ _ _ rfl _ _ rfl 3 _ _ rfl _ (by go_simp; first | exact rfl | exact ⟨rfl, rfl⟩) rfl (by simp) ?_; clear hS; intro w' hS; simp only [List.set_cons_zero, List.set_cons_succ] at hS) | (refine sN_store hS rfl _ _ _ rfl _ _ rfl 4 _ _ rfl _ (by go_simp; first | exact rfl | exact ⟨rfl, rfl⟩) rfl (by simp) ?_; clear hS; intro w' hS; simp only [List.set_cons_zero, List.set_cons_succ] at hS) | (refine sN_store hS rfl _ _ _ rfl _ _ rfl 5 _ _ rfl _ (by go_simp; first | exact rfl | exact ⟨rfl, rfl⟩) rfl (by simp) ?_; clear hS; intro w' hS; simp only [List.set_cons_zero, List.set_cons_succ] at hS) | (refine sN_storeB hS rfl _ _ _ rfl _ rfl 0 _ _ rfl _ (by go_simp; first | exact rfl | exact ⟨rfl, rfl⟩) (by rfl) (by rfl) (by simp [Value.oneCell']) ?_; clear hS; intro w' hS; simp only [List.set_cons_zero] at hS) | (refine sN_storeB hS rfl _ _ _ rfl _ rfl 1 _ _ rfl _ (by go_simp; first | exact rfl | exact ⟨rfl, rfl⟩) (by rfl) (by rfl) (by simp [Value.oneCell']) ?_; clear hS; intro w' hS; simp only [List.set_cons_zero, List.set_cons_succ] at hS) | (refine sN_storeB hS rfl _ _ _ rfl _ rfl 2 _ _ rfl _ (by go_simp; first | exact rfl | exact ⟨rfl, rfl⟩) (by rfl) (by rfl) (by simp [Value.oneCell']) ?_; clear hS; intro w' hS; simp only [List.set_cons_zero, List.set_cons_succ] at hS) | (refine sN_storeB hS rfl _ _ _ rfl _ rfl 3 _ _ rfl _ (by go_simp; first | exact rfl | exact ⟨rfl, rfl⟩) (by rfl) (by rfl) (by simp [Value.oneCell']) ?_; clear hS; intro w' hS; simp only [List.set_cons_zero, List.set_cons_succ] at hS) | (refine sN_storeB hS rfl _ _ _ rfl _ rfl 4 _ _ rfl _ (by go_simp; first | exact rfl | exact ⟨rfl, rfl⟩) (by rfl) (by rfl) (by simp [Value.oneCell']) ?_; clear hS; intro w' hS; simp only [List.set_cons_zero, List.set_cons_succ] at hS) | (refine sN_storeB hS rfl _ _ _ rfl _ rfl 5 _ _ rfl _ (by go_simp; first | exact rfl | exact ⟨rfl, rfl⟩) (by rfl) (by rfl) (by simp [Value.oneCell']) ?_; clear hS; intro w' hS; simp only [List.set_cons_zero, List.set_cons_succ] at hS)) | ((with_reducible refine gN_alloc ?_); (refine sN_alloc hS rfl _ rfl ?_; clear hS; intro b w' hb hS)) | ((with_reducible refine gN_box ?_); (refine sN_box hS rfl _ _ rfl _ (by go_simp; first | exact rfl | exact ⟨rfl, rfl⟩) ?_; clear hS; intro b w' hb hS))) | (refine ⟨trivial, rfl, ?_⟩; gi_at_call 95; refine (callsIn_wide.2 (down_spec hS.hI)).mono ?_; rintro e w' ⟨bp, rfl, hn2⟩; replace hS := hS.pure1 hn2; clear hn2))
  have hS := (hS.front 4 rfl).front 4 rfl
  simp only [List.eraseIdx_cons_succ, List.eraseIdx_cons_zero] at hS
  refine wpIn_rangeK (α := Nat × Value) (gf := 117) rfl (enters_of Tryz.func117 (by kernel_rfl) rfl) (Lit := [_, _, _]) (Lit' := [_, _]) hS (fun w1 h1 => down1_emits hj hn hl) (fun _ => rfl)
    (belInv I bo bn k) (belBad I bo bn k v) ⟨rfl, by simp, rfl⟩ ?round ?done ?stop
  case round =>
    clear hS
    rintro l2 pre ⟨i, u⟩ I1 B1 w1 hpre hin1 ⟨rfl, hpk, rfl⟩
    obtain ⟨hlt, hx⟩ := downL_at hpre
    obtain ⟨rfl, hu⟩ := Prod.mk.inj hx
    have Hu := Lib.hid hu
    have Hpre := Lib.hid hpre
    clear hu hpre hx
    simp only [encN]
    gi_wp2_with fail
    refine ⟨_, _, hin1.nx, fun w2 hin2 => ?_⟩
    have hS := hin2.nx
    clear hin1 hin2
    by_cases he : pre.length = k
    · have hki : (pre.length : Int) = k := by omega
      have huv : u = v := by
        have := Hu.out; have hv := Hv.out
        rw [he, hn, List.getD_eq_getElem?_getD, hv] at this; exact this
      subst huv
      gi_wp2_with (first | ((with_reducible refine gN_load ?_); first | (refine sN_load hS rfl _ _ rfl _ _ rfl 0 _ _ rfl _ rfl ?_) | (refine sN_load hS rfl _ _ rfl _ _ rfl 1 _ _ rfl _ rfl ?_) | (refine sN_load hS rfl _ _ rfl _ _ rfl 2 _ _ rfl _ rfl ?_) | (refine sN_load hS rfl _ _ rfl _ _ rfl 3 _ _ rfl _ rfl ?_) | (refine sN_load hS rfl _ _ rfl _ _ rfl 4 _ _ rfl _ rfl ?_) | (refine sN_load hS rfl _ _ rfl _ _ rfl 5 _ _ rfl _ rfl ?_) | (refine sN_loadA hS rfl _ _ rfl _ _ rfl 0 _ _ rfl _ rfl rfl ?_) | (refine sN_loadA hS rfl _ _ rfl _ _ rfl 1 _ _ rfl _ rfl rfl ?_) | (refine sN_loadA hS rfl _ _ rfl _ _ rfl 2 _ _ rfl _ rfl rfl ?_) | (refine sN_loadA hS rfl _ _ rfl _ _ rfl 3 _ _ rfl _ rfl rfl ?_) | (refine sN_loadA hS rfl _ _ rfl _ _ rfl 4 _ _ rfl _ rfl rfl ?_) | (refine sN_loadA hS rfl _ _ rfl _ _ rfl 5 _ _ rfl _ rfl rfl ?_)) | (refine sN_store hS rfl _ _ _ rfl _ _ rfl 0 _ _ rfl u rfl h1 (by simp) ?_; clear hS; intro w' hS; simp only [List.set_cons_zero] at hS))
      exact ⟨_, _, hS, rfl, rfl, rfl⟩
    · have hki : ¬ (pre.length : Int) = k := by omega
      gi_wp2_with ((with_reducible refine gN_load ?_); first | (refine sN_load hS rfl _ _ rfl _ _ rfl 0 _ _ rfl _ rfl ?_) | (refine sN_load hS rfl _ _ rfl _ _ rfl 1 _ _ rfl _ rfl ?_) | (refine sN_load hS rfl _ _ rfl _ _ rfl 2 _ _ rfl _ rfl ?_) | (refine sN_load hS rfl _ _ rfl _ _ rfl 3 _ _ rfl _ rfl ?_) | (refine sN_load hS rfl _ _ rfl _ _ rfl 4 _ _ rfl _ rfl ?_) | (refine sN_load hS rfl _ _ rfl _ _ rfl 5 _ _ rfl _ rfl ?_) | (refine sN_loadA hS rfl _ _ rfl _ _ rfl 0 _ _ rfl _ rfl rfl ?_) | (refine sN_loadA hS rfl _ _ rfl _ _ rfl 1 _ _ rfl _ rfl rfl ?_) | (refine sN_loadA hS rfl _ _ rfl _ _ rfl 2 _ _ rfl _ rfl rfl ?_) | (refine sN_loadA hS rfl _ _ rfl _ _ rfl 3 _ _ rfl _ rfl rfl ?_) | (refine sN_loadA hS rfl _ _ rfl _ _ rfl 4 _ _ rfl _ rfl rfl ?_) | (refine sN_loadA hS rfl _ _ rfl _ _ rfl 5 _ _ rfl _ rfl rfl ?_))
      exact ⟨_, _, hS, rfl, by simp; omega, rfl⟩
  case done =>
    clear hS
    rintro D J B' w' hS ⟨rfl, hlen, rfl⟩
    rw [downL_len] at hlen
    omega
  case stop =>
    clear hS
    rintro D c pre J B' w' hS hpre ⟨rfl, rfl, rfl⟩
    gi_wp2_with ((with_reducible refine gN_load ?_); first | (refine sN_load hS rfl _ _ rfl _ _ rfl 0 _ _ rfl _ rfl ?_) | (refine sN_load hS rfl _ _ rfl _ _ rfl 1 _ _ rfl _ rfl ?_) | (refine sN_load hS rfl _ _ rfl _ _ rfl 2 _ _ rfl _ rfl ?_) | (refine sN_load hS rfl _ _ rfl _ _ rfl 3 _ _ rfl _ rfl ?_) | (refine sN_load hS rfl _ _ rfl _ _ rfl 4 _ _ rfl _ rfl ?_) | (refine sN_load hS rfl _ _ rfl _ _ rfl 5 _ _ rfl _ rfl ?_) | (refine sN_loadA hS rfl _ _ rfl _ _ rfl 0 _ _ rfl _ rfl rfl ?_) | (refine sN_loadA hS rfl _ _ rfl _ _ rfl 1 _ _ rfl _ rfl rfl ?_) | (refine sN_loadA hS rfl _ _ rfl _ _ rfl 2 _ _ rfl _ rfl rfl ?_) | (refine sN_loadA hS rfl _ _ rfl _ _ rfl 3 _ _ rfl _ rfl rfl ?_) | (refine sN_loadA hS rfl _ _ rfl _ _ rfl 4 _ _ rfl _ rfl rfl ?_) | (refine sN_loadA hS rfl _ _ rfl _ _ rfl 5 _ _ rfl _ rfl rfl ?_))
    have hK : w'.heap[D]? = some (.deferred (some [])) := hS.get (i := 0) rfl
    have hS2 := ((hS.putObj (i := 0) rfl (.deferred none)).drop)
    refine ⟨by simp, .inl ⟨_, _, rfl, run_takeDeferred hK, ⟨_, results_tmp rfl _ _ _, rfl, ?_⟩⟩⟩
    exact (hS2.dropAt 2 rfl).dropAt 2 rfl
end Go.Proofs.YtmlgieclkedomaaGreat

namespace Go.Proofs.YtmlgieclkedomaaGreat
open Go Go.RowKit

/-- a stack's two lists, the top last -/
def StkAt (J : Imm) (sp : Nat) (s o : List Bs) (L : List Item) : Prop :=
  ∃ al ao cl co xl xo, L = stkL sp al ao s.length cl o.length co xl xo ∧ Reps J s xl ∧ Reps J o xo
theorem StkAt.mono {I J : Imm} (h : I.Le J) {sp : Nat} {s o : List Bs} {L : List Item} (k : StkAt I sp s o L) : StkAt J sp s o L := by
  obtain ⟨al, ao, cl, co, xl, xo, e, h1, h2⟩ := k
  exact ⟨al, ao, cl, co, xl, xo, e, h1.mono h, h2.mono h⟩
theorem RepsB.last {I : Imm} {l : List Bs} {b : Bs} {xs : List Value} (h : Reps I (l ++ [b]) xs) : ∃ ad c, xs[(l ++ [b]).length - 1 - 0]? = some (.slice ad b.length c) ∧ RdB I (.slice ad b.length c) b := by
  have := RepsB.at h l.length (by simp)
  simpa using this

theorem TopE_spec {I : Imm} {w : World} {sp : Nat} {o : List Bs} {L : List Item} (hin : Init I L w) (h : StkAt I sp [] o L) :
    Calls Tryz.prog 56 #[.pointer (some ⟨sp, 0, none⟩), .int .i64 0] w fun e w' => e = .returned (.tuple #[.slice none 0 0, .int .i64 120]) ∧ Nx L I w I L w' := by
  obtain ⟨al, ao, cl, co, xl, xo, rfl, hl, ho⟩ := h
  have hS := hin.nx
  go_enter Tryz.func56, Tryz.ntmps56
  go_wp2_with (go_at_call 72; refine (deep_spec (hS.blkCell 0 rfl 0 rfl)).mono ?_; rintro e w' ⟨rfl, rfl⟩)
  go_ret2
  exact ⟨rfl, hS⟩

theorem TopS_spec {I : Imm} {w : World} {sp : Nat} {s o : List Bs} {b : Bs} {L : List Item} (hin : Init I L w) (h : StkAt I sp (s ++ [b]) o L) (hs : s.length ≤ 100000) (hb : b.length ≤ 1000000) :
    Calls Tryz.prog 56 #[.pointer (some ⟨sp, 0, none⟩), .int .i64 0] w fun e w' => ∃ ad c J, e = .returned (.tuple #[.slice ad b.length c, .int .i64 0]) ∧ Nx L I w J L w' ∧ RdB J (.slice ad b.length c) b := by
  obtain ⟨al, ao, cl, co, xl, xo, rfl, hl, ho⟩ := h
  have hS := hin.nx
  obtain ⟨ea, ec, hv, hrd⟩ := RepsB.last hl
  have hlen : (s ++ [b]).length = s.length + 1 := by simp
  have Hl := Lib.hid hl
  clear hl
  go_enter Tryz.func56, Tryz.ntmps56
  go_wp2_with (first | (go_at_call 72; refine (deep_spec (hS.blkCell 0 rfl 0 rfl)).mono ?_; rintro e w' ⟨rfl, rfl⟩) | (go_at_call 76; refine (below_spec (k := 0) (hS.toInit.left (L := [_, _])) rfl (by omega) (by omega) hv rfl).mono ?_; rintro e w' ⟨rfl, hn⟩; replace hS := Nx.call (L1 := [_, _]) hS hn; clear hn; simp only [List.set_cons_zero, List.set_cons_succ, List.cons_append, List.nil_append] at hS) | (go_at_call 49; refine (Clone_spec hS.hI hrd (by omega)).mono ?_; rintro e w' ⟨ca, cc, rfl, hn⟩; obtain ⟨J, hS', hle, hrd2⟩ := hS.pureFreeze hn; clear hS hn; have hS := hS'; clear hS'))
  go_ret2
  exact ⟨ca, cc, J, rfl, hS, hrd2⟩

theorem PopE_spec {I : Imm} {w : World} {sp : Nat} {o : List Bs} {L : List Item} (hin : Init I L w) (h : StkAt I sp [] o L) :
    Calls Tryz.prog 124 #[.pointer (some ⟨sp, 0, none⟩)] w fun e w' => e = .returned (.tuple #[.slice none 0 0, .int .i64 120]) ∧ Nx L I w I L w' := by
  have hS := hin.nx
  go_enter Tryz.func124, Tryz.ntmps124
  go_wp2_with (go_at_call 56; refine (TopE_spec hS.toInit h).mono ?_; rintro e w' ⟨rfl, hn⟩; replace hS := hS.trans hn; clear hn)
  go_ret2
  exact ⟨rfl, hS⟩

/-- one element less, in the items behind a cut -/
theorem StkAt.cut1 {J : Imm} {sp : Nat} {s o : List Bs} {b : Bs} {al ao : Option Addr} {co : Nat} {xl xo : List Value} (hl : Reps J (s ++ [b]) xl) (ho : Reps J o xo) :
    StkAt J sp s o (stkL sp al ao ((s ++ [b]).length - 1) ((s ++ [b]).length - 1) o.length co (xl.take ((s ++ [b]).length - 1)) xo) := by
  have e : (s ++ [b]).length - 1 = s.length := by simp
  rw [e]
  have := RepsB.take hl s.length
  rw [List.take_left] at this
  exact ⟨al, ao, _, co, _, xo, rfl, this, ho⟩

theorem PopS_spec {I : Imm} {w : World} {sp : Nat} {s o : List Bs} {b : Bs} {L : List Item} (hin : Init I L w) (h : StkAt I sp (s ++ [b]) o L) (hs : s.length ≤ 100000) (hb : b.length ≤ 1000000) :
    Calls Tryz.prog 124 #[.pointer (some ⟨sp, 0, none⟩)] w fun e w' => ∃ ad c J L', e = .returned (.tuple #[.slice ad b.length c, .int .i64 0]) ∧ Nx L I w J L' w' ∧ StkAt J sp s o L' ∧ RdB J (.slice ad b.length c) b := by
  have hS := hin.nx
  have hlen : (s ++ [b]).length = s.length + 1 := by simp
  go_enter Tryz.func124, Tryz.ntmps124
  go_wp2_with (go_at_call 56; refine (TopS_spec hS.toInit h hs hb).mono ?_; rintro e w' ⟨ca, cc, J, rfl, hn, hrd⟩; replace h := h.mono (hn.le hS.hI); replace hS := hS.trans hn; clear hn; refine Stop.of ?_)
  obtain ⟨al, ao, cl, co, xl, xo, rfl, hl, ho⟩ := h
  have Hl := Lib.hid hl
  have hone := Reps.one hl
  clear hl
  refine Stop.to ?_
  go_wp2_with (go_at_call 141; refine (cut_spec (hS.toInit.left (L := [_, _])) rfl hone 1 (by omega) (by omega)).mono ?_; rintro e w' ⟨a2, c2, rfl, hn⟩; replace hS := Nx.call (L1 := [_, _]) hS hn; clear hn; simp only [List.set_cons_zero, List.set_cons_succ, List.cons_append, List.nil_append] at hS; replace hS := hS.drop)
  go_ret2
  exact ⟨ca, cc, J, _, rfl, hS, StkAt.cut1 Hl.out ho, hrd⟩

def PushPost (L : List Item) (I : Imm) (w : World) (sp : Nat) (s o : List Bs) (b : Bs) (e : Ending) (w' : World) : Prop :=
  if b.length > 520 then e = .returned (.int .i64 120) ∧ ∃ J, Nx L I w J L w'
  else if s.length + o.length = 100 then e = .returned (.int .i64 121) ∧ ∃ J, Nx L I w J L w'
  else e = .returned (.int .i64 0) ∧ ∃ J L', Nx L I w J L' w' ∧ StkAt J sp (s ++ [b]) o L'

set_option maxRecDepth 10000 in
theorem stkPush_spec {I : Imm} {w : World} {sp : Nat} {s o : List Bs} {b : Bs} {v : Value} {L : List Item} (hin : Init I L w) (h : StkAt I sp s o L) (hs : s.length + o.length ≤ 100000) (hv : RdB I v b) (hb : b.length ≤ 1000000) :
    Calls Tryz.prog 126 #[.pointer (some ⟨sp, 0, none⟩), v] w (PushPost L I w sp s o b) := by
  obtain ⟨al, ao, cl, co, xl, xo, rfl, hl, ho⟩ := h
  obtain ⟨va, vc, rfl, hv1, hv2, -⟩ := hv.ex
  have hS := hin.nx
  have Hl := Lib.hid hl
  clear hl
  go_enter Tryz.func126, Tryz.ntmps126
  by_cases h1 : b.length > 520
  · have hi : 520 < (b.length : Int) := by omega
    go_wp2_with fail
    go_ret
    unfold PushPost
    rw [if_pos h1]
    exact ⟨rfl, I, hS⟩
  · have hi : (b.length : Int) ≤ 520 := by omega
    by_cases h2 : s.length + o.length = 100
    · have hi2 : (((s.length + o.length : Nat) : Int)) = 100 := by omega
      go_wp2_with (go_at_call 50; refine (many_spec hS.hI (hS.blkCell 0 rfl 0 rfl) (hS.blkCell 0 rfl 1 rfl) (by omega)).mono ?_; rintro e w' ⟨rfl, hn⟩; rw [hi2]; replace hS := hS.pure0 hn; clear hn)
      go_ret
      unfold PushPost
      rw [if_neg h1, if_pos h2]
      exact ⟨rfl, I, hS⟩
    · have hi2 : ¬ (((s.length + o.length : Nat) : Int)) = 100 := by omega
      obtain ⟨m, hm⟩ : ∃ m : Int, m = ((s.length + o.length : Nat) : Int) := ⟨_, rfl⟩
      rw [← hm] at hi2
      have Hm := Lib.hid hm
      clear hm
      go_wp2_with (go_at_call 50; refine (many_spec hS.hI (hS.blkCell 0 rfl 0 rfl) (hS.blkCell 0 rfl 1 rfl) (by omega)).mono ?_; rintro e w' ⟨rfl, hn⟩; rw [← Hm.out]; replace hS := hS.pure0 hn; clear hn)
      replace hS := hS.drew
      refine rg_start (fun _ => True) [] (by kernel_rfl) ?_
      -- P0 P1 P2 P3 S4 S5 S6
      (refine rg_pure (v := ?v0u1) 0 rfl (by kernel_rfl) (fun _ _ _ h => h) rfl ?hy0u1 ?rest0u1; (case hy0u1 => (intro w; go_simp; try with_reducible rfl)); (try simp only [Act.put, List.setIfInBounds_toArray, List.set_cons_zero, List.set_cons_succ]))
      (refine rg_pure (v := ?v1u1) 1 rfl (by kernel_rfl) (fun _ _ _ h => h) rfl ?hy1u1 ?rest1u1; (case hy1u1 => (intro w; go_simp; try with_reducible rfl)); (try simp only [Act.put, List.setIfInBounds_toArray, List.set_cons_zero, List.set_cons_succ]))
      (refine rg_pure (v := ?v2u1) 2 rfl (by kernel_rfl) (fun _ _ _ h => h) rfl ?hy2u1 ?rest2u1; (case hy2u1 => (intro w; go_simp; try with_reducible rfl)); (try simp only [Act.put, List.setIfInBounds_toArray, List.set_cons_zero, List.set_cons_succ]))
      (refine rg_pure (v := ?v3u1) 3 rfl (by kernel_rfl) (fun _ _ _ h => h) rfl ?hy3u1 ?rest3u1; (case hy3u1 => (intro w; go_simp; try with_reducible rfl)); (try simp only [Act.put, List.setIfInBounds_toArray, List.set_cons_zero, List.set_cons_succ]))
      (refine rg_step 4 rfl (by kernel_rfl) (fun K' hK => ?_); go_wp2_with (first | (go_at_call 49; refine (Clone_spec hS.hI hv (by omega)).mono ?_; rintro e w' ⟨ca, cc, rfl, hn⟩; obtain ⟨K2, hS2, hle2, hrd2⟩ := hS.pureFreeze hn; clear hS hn; have hS := hS2; clear hS2) | (((with_reducible refine gL_lit ?_); first | (refine sL_lit0 hS rfl _ rfl ?_; clear hS; intro lb w' hlb hS) | (refine sL_lit1 hS rfl _ _ rfl _ (by go_simp; first | exact rfl | exact ⟨rfl, rfl⟩) rfl ?_; clear hS; intro lb w' hlb hS) | (refine sL_lit2 hS rfl _ _ _ rfl _ _ (by go_simp; first | exact rfl | exact ⟨rfl, rfl⟩) (by go_simp; first | exact rfl | exact ⟨rfl, rfl⟩) rfl rfl ?_; clear hS; intro lb w' hlb hS) | (refine sL_lit12 hS rfl _ _ rfl _ _ (by go_simp; first | exact rfl | exact ⟨rfl, rfl⟩) ?_; clear hS; intro lb w' hlb hS)); obtain ⟨K3, hS3, hle3, hat3⟩ := hS.freezeBlk hlb; clear hS; have hS := hS3; clear hS3) | (go_at_call 48; refine (put12_spec (m := 1) (hS.toInit.left (L := [_, _])) rfl (Rd.ofBlk hat3 (by decide)) rfl (by simp [Value.oneCell']) (by omega)).mono ?_; rintro e w' ⟨_, pa, pc, rfl, hn⟩; replace hS := Nx.call (L1 := [_, _]) hS hn; clear hn; simp only [List.set_cons_zero, List.set_cons_succ, List.cons_append, List.nil_append] at hS)); (try with_reducible refine rg_back ?_); refine hK.out _ _ (fun h => absurd h (by decide)) ?_; clear hK; clear K'; (try simp only [Act.put, List.setIfInBounds_toArray, List.set_cons_zero, List.set_cons_succ]))
      (refine rg_step 5 rfl (by kernel_rfl) (fun K' hK => ?_); go_wp2_with (first | (go_at_call 49; refine (Clone_spec hS.hI hv (by omega)).mono ?_; rintro e w' ⟨ca, cc, rfl, hn⟩; obtain ⟨K2, hS2, hle2, hrd2⟩ := hS.pureFreeze hn; clear hS hn; have hS := hS2; clear hS2) | (((with_reducible refine gL_lit ?_); first | (refine sL_lit0 hS rfl _ rfl ?_; clear hS; intro lb w' hlb hS) | (refine sL_lit1 hS rfl _ _ rfl _ (by go_simp; first | exact rfl | exact ⟨rfl, rfl⟩) rfl ?_; clear hS; intro lb w' hlb hS) | (refine sL_lit2 hS rfl _ _ _ rfl _ _ (by go_simp; first | exact rfl | exact ⟨rfl, rfl⟩) (by go_simp; first | exact rfl | exact ⟨rfl, rfl⟩) rfl rfl ?_; clear hS; intro lb w' hlb hS) | (refine sL_lit12 hS rfl _ _ rfl _ _ (by go_simp; first | exact rfl | exact ⟨rfl, rfl⟩) ?_; clear hS; intro lb w' hlb hS)); obtain ⟨K3, hS3, hle3, hat3⟩ := hS.freezeBlk hlb; clear hS; have hS := hS3; clear hS3) | (go_at_call 48; refine (put12_spec (m := 1) (hS.toInit.left (L := [_, _])) rfl (Rd.ofBlk hat3 (by decide)) rfl (by simp [Value.oneCell']) (by omega)).mono ?_; rintro e w' ⟨_, pa, pc, rfl, hn⟩; replace hS := Nx.call (L1 := [_, _]) hS hn; clear hn; simp only [List.set_cons_zero, List.set_cons_succ, List.cons_append, List.nil_append] at hS)); (try with_reducible refine rg_back ?_); refine hK.out _ _ (fun h => absurd h (by decide)) ?_; clear hK; clear K'; (try simp only [Act.put, List.setIfInBounds_toArray, List.set_cons_zero, List.set_cons_succ]))
      (refine rg_step 6 rfl (by kernel_rfl) (fun K' hK => ?_); go_wp2_with (first | (go_at_call 49; refine (Clone_spec hS.hI hv (by omega)).mono ?_; rintro e w' ⟨ca, cc, rfl, hn⟩; obtain ⟨K2, hS2, hle2, hrd2⟩ := hS.pureFreeze hn; clear hS hn; have hS := hS2; clear hS2) | (((with_reducible refine gL_lit ?_); first | (refine sL_lit0 hS rfl _ rfl ?_; clear hS; intro lb w' hlb hS) | (refine sL_lit1 hS rfl _ _ rfl _ (by go_simp; first | exact rfl | exact ⟨rfl, rfl⟩) rfl ?_; clear hS; intro lb w' hlb hS) | (refine sL_lit2 hS rfl _ _ _ rfl _ _ (by go_simp; first | exact rfl | exact ⟨rfl, rfl⟩) (by go_simp; first | exact rfl | exact ⟨rfl, rfl⟩) rfl rfl ?_; clear hS; intro lb w' hlb hS) | (refine sL_lit12 hS rfl _ _ rfl _ _ (by go_simp; first | exact rfl | exact ⟨rfl, rfl⟩) ?_; clear hS; intro lb w' hlb hS)); obtain ⟨K3, hS3, hle3, hat3⟩ := hS.freezeBlk hlb; clear hS; have hS := hS3; clear hS3) | (go_at_call 48; refine (put12_spec (m := 1) (hS.toInit.left (L := [_, _])) rfl (Rd.ofBlk hat3 (by decide)) rfl (by simp [Value.oneCell']) (by omega)).mono ?_; rintro e w' ⟨_, pa, pc, rfl, hn⟩; replace hS := Nx.call (L1 := [_, _]) hS hn; clear hn; simp only [List.set_cons_zero, List.set_cons_succ, List.cons_append, List.nil_append] at hS)); (try with_reducible refine rg_back ?_); refine hK.out _ _ (fun h => absurd h (by decide)) ?_; clear hK; clear K'; (try simp only [Act.put, List.setIfInBounds_toArray, List.set_cons_zero, List.set_cons_succ]))
      refine rg_done (by kernel_rfl) ?_
      go_wp2
      go_ret
      unfold PushPost
      rw [if_neg h1, if_neg h2]
      refine ⟨rfl, K3, _, hS, pa, ao, pc, co, xl ++ [.slice ca b.length cc], xo, by simp, ?_, (ho.mono hle2).mono hle3⟩
      exact ((Hl.out.mono hle2).mono hle3).append (RepsB.one (hrd2.mono hle3))

theorem number12_spec {I : Imm} {w : World} {sp : Nat} {s o : List Bs} {n : Int} {L : List Item} (hin : Init I L w) (h : StkAt I sp s o L) (hs : s.length + o.length ≤ 100000) (h1 : -549755813888 < n) (h2 : n < 549755813888) :
    Calls Tryz.prog 143 #[.pointer (some ⟨sp, 0, none⟩), .int .i64 n] w fun e w' => ∃ v J L', e = .returned v ∧ Nx L I w J L' w' ∧ StkAt J sp (s ++ [numB n]) o L' := by
  obtain ⟨al, ao, cl, co, xl, xo, rfl, hl, ho⟩ := h
  have hS := hin.nx
  have Hl := Lib.hid hl
  clear hl
  go_enter Tryz.func143, Tryz.ntmps143
  go_wp2_with (first | (go_at_call 30; refine (Encode_spec hS.hI h1 h2).mono ?_; rintro e w' ⟨na, nc, rfl, hn⟩; obtain ⟨K2, hS2, hle2, hrd2⟩ := hS.pureFreeze hn; clear hS hn; have hS := hS2; clear hS2) | (((with_reducible refine gL_lit ?_); first | (refine sL_lit0 hS rfl _ rfl ?_; clear hS; intro lb w' hlb hS) | (refine sL_lit1 hS rfl _ _ rfl _ (by go_simp; first | exact rfl | exact ⟨rfl, rfl⟩) rfl ?_; clear hS; intro lb w' hlb hS) | (refine sL_lit2 hS rfl _ _ _ rfl _ _ (by go_simp; first | exact rfl | exact ⟨rfl, rfl⟩) (by go_simp; first | exact rfl | exact ⟨rfl, rfl⟩) rfl rfl ?_; clear hS; intro lb w' hlb hS) | (refine sL_lit12 hS rfl _ _ rfl _ _ (by go_simp; first | exact rfl | exact ⟨rfl, rfl⟩) ?_; clear hS; intro lb w' hlb hS)); obtain ⟨K3, hS3, hle3, hat3⟩ := hS.freezeBlk hlb; clear hS; have hS := hS3; clear hS3) | (go_at_call 48; refine (put12_spec (m := 1) (hS.toInit.left (L := [_, _])) rfl (Rd.ofBlk hat3 (by decide)) rfl (by simp [Value.oneCell']) (by omega)).mono ?_; rintro e w' ⟨_, pa, pc, rfl, hn⟩; replace hS := Nx.call (L1 := [_, _]) hS hn; clear hn; simp only [List.set_cons_zero, List.set_cons_succ, List.cons_append, List.nil_append] at hS))
  refine bodyPost_end (results_none rfl _ _ _) rfl ⟨_, K3, _, rfl, hS, pa, ao, pc, co, xl ++ [.slice na (numB n).length nc], xo, by simp, ?_, (ho.mono hle2).mono hle3⟩
  exact ((Hl.out.mono hle2).mono hle3).append (RepsB.one (hrd2.mono hle3))
end Go.Proofs.YtmlgieclkedomaaGreat

namespace Go.Proofs.YtmlgieclkedomaaGreat
open Go Go.RowKit

def intArr (P : Program) (T : TypeId) (n : Nat) (k : IntKind) : Bool :=
  (match P.underlying T with
   | some (.array m e) => m == n && (match P.underlying e with | some (.int k') => k' == k | _ => false) && (match P.info? e with | some i => i.size == 1 | none => false) && P.cellsOf e == 1
   | _ => false) && !P.eqGuardType P.depth T
class IntArr (P : Program) (T : TypeId) (n : outParam Nat) (k : outParam IntKind) : Prop where
  pf : intArr P T n k = true

section
variable {P : Program} {w : World}
theorem IntArr.parts {T n k} (h : IntArr P T n k) : ∃ e i, P.underlying T = some (.array n e) ∧ P.underlying e = some (.int k) ∧ P.info? e = some i ∧ i.size = 1 ∧ P.cellsOf e = 1 ∧ P.eqGuardType P.depth T = false := by
  have := h.pf
  unfold intArr at this
  rw [Bool.and_eq_true] at this
  obtain ⟨h1, h2⟩ := this
  split at h1
  · rename_i m e hu
    simp only [Bool.and_eq_true, beq_iff_eq] at h1
    obtain ⟨⟨⟨rfl, h3⟩, h4⟩, h5⟩ := h1
    split at h3
    · rename_i k' hk
      split at h4
      · rename_i i hi
        rw [beq_iff_eq] at h3 h4
        subst h3
        exact ⟨e, i, hu, hk, hi, h4, h5, by simpa using h2⟩
      · cases h4
    · cases h3
  · cases h1

theorem run_eqItems_int {d : Nat} {e : TypeId} {k : IntKind} (he : P.underlying e = some (.int k)) {l m : List Int} : ∀ (is : List Nat), (∀ i ∈ is, i < l.length ∧ i < m.length) →
    (Op.eqItems (d + 1) e 1 (l.map (Value.int k)).toArray (m.map (Value.int k)).toArray is).run P w = .ok (is.all fun i => l[i]? == m[i]?) w
  | [], _ => by simp [Op.eqItems]
  | i :: is, h => by
    obtain ⟨h1, h2⟩ := h i (by simp)
    have ih := run_eqItems_int he is (fun j hj => h j (by simp [hj])) (d := d) (l := l) (m := m)
    have hagg : (isAgg e).run P w = .ok false w := by
      unfold isAgg
      rw [Sem.run_bind, run_underlying he w]
      simp [Result.andThen]
    have p1 : ∀ {l : List Int} (h : i < l.length), (part e (l.map (Value.int k)).toArray (i * 1)).run P w = .ok (.int k l[i]) w := fun {l} h => by
      simp [part, hagg, Result.andThen, h, go_sem]
    simp only [Op.eqItems, Sem.run_bind, p1 h1, p1 h2, Result.andThen_ok, run_equalIn_int w d e k k l[i] m[i] he]
    by_cases heq : l[i] = m[i]
    · simp [heq, ih, h1, h2]
    · simp [heq, h1, h2]

theorem run_eqA {T n k} [h : IntArr P T n k] {l m : List Int} (hl : l.length = n) (hm : m.length = n) :
    (binOp .eql T (.agg (l.map (Value.int k)).toArray) (.agg (m.map (Value.int k)).toArray)).run P w = .ok (.bool (decide (l = m))) w := by
  obtain ⟨e, i, hu, he, hi, hs, hc, hg⟩ := h.parts
  rw [run_eql_struct]
  have := run_equalIn_array (P := P) (w := w) 9999 (l.map (Value.int k)).toArray (m.map (Value.int k)).toArray hu hi
  rw [this, hc, run_eqItems_int he _ (by intro i hi; rw [List.mem_range] at hi; omega)]
  simp only [Result.andThen]
  congr 2
  rw [Bool.eq_iff_iff, List.all_eq_true, decide_eq_true_iff]
  constructor
  · intro h
    refine List.ext_getElem? fun i => ?_
    by_cases hi : i < n
    · simpa using h i (List.mem_range.2 hi)
    · rw [List.getElem?_eq_none (by omega), List.getElem?_eq_none (by omega)]
  · rintro rfl i _; simp
theorem bvs_ints (l : List UInt8) : bvs l = (l.map fun b => (b.toNat : Int)).map (Value.int .u8) := by simp [bvs]
def wv (x : UInt32) : Value := .int .u32 x.toNat
def wvs (l : List UInt32) : List Value := l.map wv
theorem wvs_ints (l : List UInt32) : wvs l = (l.map fun b => (b.toNat : Int)).map (Value.int .u32) := by simp [wvs, wv]
theorem map_inj_dec {α : Type} [DecidableEq α] (f : α → Int) (hf : ∀ a b, f a = f b → a = b) (l m : List α) : decide (l.map f = m.map f) = decide (l = m) := by
  rw [Bool.eq_iff_iff, decide_eq_true_iff, decide_eq_true_iff]
  exact ⟨fun h => List.map_inj_right (fun a b => hf a b) |>.1 h, fun h => by rw [h]⟩
theorem run_eqB {T n} [h : IntArr P T n .u8] {l m : List UInt8} (hl : l.length = n) (hm : m.length = n) :
    (binOp .eql T (.agg (bvs l).toArray) (.agg (bvs m).toArray)).run P w = .ok (.bool (decide (l = m))) w := by
  rw [bvs_ints, bvs_ints, run_eqA (by simpa using hl) (by simpa using hm), map_inj_dec _ (fun a b h => by apply UInt8.toNat_inj.1; omega)]
theorem run_eqW {T n} [h : IntArr P T n .u32] {l m : List UInt32} (hl : l.length = n) (hm : m.length = n) :
    (binOp .eql T (.agg (wvs l).toArray) (.agg (wvs m).toArray)).run P w = .ok (.bool (decide (l = m))) w := by
  rw [wvs_ints, wvs_ints, run_eqA (by simpa using hl) (by simpa using hm), map_inj_dec _ (fun a b h => by apply UInt32.toNat_inj.1; omega)]
variable {ρ : Operand → Value} {o : Oper}
theorem ex_eql (T T' : TypeId) (x y : Operand) (ho : o.op = .binOp .eql T x y T') {n k} [h : IntArr P T n k] {xs ys : Array Value} (hx : ρ x = .agg xs) (hy : ρ y = .agg ys) {b : Bool} (hb : (binOp .eql T (.agg xs) (.agg ys)).run P w = .ok (.bool b) w) :
    (execOp ρ o).run P w = .ok (.value (.bool b)) w := by
  obtain ⟨e, i, hu, he, hi, hs, hc, hg⟩ := h.parts
  have hgd := run_eqGuard_agg (P := P) w .eql T x y xs ys hg
  simp only [execOp, ho, hx, hy, Sem.run_bind, hgd, Result.andThen, hb, Sem.run_pure]
@[go_sem] theorem run_arrayAt {T n k} [h : IntArr P T n k] (a : Option Addr) (len cap : Nat) (hn : n ≤ len) : (Instr.arrayAt T (.slice a len cap)).run P w = .ok (.pointer a) w := by
  obtain ⟨e, i, hu, he, hi, hs, hc, hg⟩ := h.parts
  simp [Instr.arrayAt, run_underlying hu, Result.andThen, show ¬ len < n by omega]

/-! ### functions compared with nil -/
class FuncT (P : Program) (T : TypeId) : Prop where
  pf : (match P.underlying T with | some (.func _ _ _) => true | _ => false) = true
theorem FuncT.parts {T : TypeId} (h : FuncT P T) : ∃ a b c, P.underlying T = some (.func a b c) := by
  have := h.pf
  split at this
  · exact ⟨_, _, _, by assumption⟩
  · cases this
theorem run_equalIn_func_nil (d : Nat) {T} (h : FuncT P T) (f : Fn) (a b : Array Value) : (Op.equalIn (d + 1) T (.func f a b) .nilFunc).run P w = .ok false w := by
  obtain ⟨x, y, z, hu⟩ := h.parts
  simp only [Op.equalIn, Sem.run_bind, run_underlying hu, Result.andThen_ok, Sem.run_pure]
theorem run_equalIn_nil_nil (d : Nat) {T} (h : FuncT P T) : (Op.equalIn (d + 1) T .nilFunc .nilFunc).run P w = .ok true w := by
  obtain ⟨x, y, z, hu⟩ := h.parts
  simp only [Op.equalIn, Sem.run_bind, run_underlying hu, Result.andThen_ok, Sem.run_pure]
@[go_sem] theorem run_eql_func_nil {T} [h : FuncT P T] (f : Fn) (a b : Array Value) : (binOp .eql T (.func f a b) .nilFunc).run P w = .ok (.bool false) w := by
  have h1 := run_equalIn_func_nil (w := w) 9999 h f a b
  simp only [binOp]
  simp [Op.equal, Op.maxDepth, h1, Result.andThen]
@[go_sem] theorem run_neq_func_nil {T} [h : FuncT P T] (f : Fn) (a b : Array Value) : (binOp .neq T (.func f a b) .nilFunc).run P w = .ok (.bool true) w := by
  have h1 := run_equalIn_func_nil (w := w) 9999 h f a b
  simp only [binOp]
  simp [Op.equal, Op.maxDepth, h1, Result.andThen]
@[go_sem] theorem run_neq_nil_nil {T} [h : FuncT P T] : (binOp .neq T .nilFunc .nilFunc).run P w = .ok (.bool false) w := by
  have h1 := run_equalIn_nil_nil (w := w) 9999 h
  simp only [binOp]
  simp [Op.equal, Op.maxDepth, h1, Result.andThen]

/-! ### bytes as a string -/
def bytesT (P : Program) (T : TypeId) : Bool := match P.underlying T with | some (.slice e) => (match P.underlying e with | some (.int k) => k == .u8 | _ => false) | _ => false
class BytesT (P : Program) (T : TypeId) : Prop where
  pf : bytesT P T = true
class StrT (P : Program) (T : TypeId) : Prop where
  pf : (match P.underlying T with | some .string => true | _ => false) = true
@[reducible] def bstr (l : Bs) : Value := .string ⟨l.toArray⟩
/-- bytes, as memory is now -/
def ByW (w : World) (v : Value) (l : Bs) : Prop := ∃ ad c, v = .slice ad l.length c ∧ Src w ad (bvs l)
theorem RdB.byW {I : Imm} {v : Value} {l : Bs} (h : RdB I v l) (hI : I.Holds w) : ByW w v l := by
  obtain ⟨ad, c, rfl, _⟩ := h.ex
  exact ⟨ad, c, rfl, h.src hI⟩
theorem run_str {T U} [hT : BytesT P T] [hU : StrT P U] {v : Value} {l : Bs} (h : ByW w v l) : (convert T U v).run P w = .ok (bstr l) w := by
  obtain ⟨e, hs, he⟩ : ∃ e, P.underlying T = some (.slice e) ∧ P.underlying e = some (.int .u8) := by
    have := hT.pf
    unfold bytesT at this
    split at this
    · rename_i e h1
      split at this
      · rename_i k h2
        rw [beq_iff_eq] at this
        subst this
        exact ⟨e, h1, h2⟩
      · cases this
    · cases this
  have hd : P.underlying U = some .string := by
    have := hU.pf
    split at this
    · rename_i h1; exact h1
    · cases this
  obtain ⟨ad, c, rfl, hsrc⟩ := h
  rcases hsrc with ⟨_, h0⟩ | ⟨b, j, rfl, hc⟩
  · obtain rfl : l = [] := by simpa using h0
    rw [run_convert_bytes_string w T U e ad _ _ hs he hd]
    cases ad <;> simp [Conv.bytesToString, bstr, loadCells, loadCellsFrom]
    all_goals rfl
  · exact run_convert_bytes_back w T U e ⟨b, j, none⟩ c l hs he hd (fun i hi => by rw [Addr.add_lit]; exact hc i _ (by simp [hi]))
theorem ex_str (T U : TypeId) (x : Operand) (ho : o.op = .convert T U x) [hT : BytesT P T] [hU : StrT P U] {v : Value} (hx : ρ x = v) {l : Bs} (h : ByW w v l) : (execOp ρ o).run P w = .ok (.value (bstr l)) w := by
  simp only [execOp, ho, hx, Sem.run_bind, run_str h, Result.andThen, Sem.run_pure]
end
section
variable {P : Program} {ops : Array Oper} {Q : Exit → Act → World → Prop} {a : Act} {w : World} {rest : List Oper} {o : Oper}
theorem sL_str (hg : Region.wanted o (yielded ops a.tmps) = true) (T U : TypeId) (x : Operand) (ho : o.op = .convert T U x) [hT : BytesT P T] [hU : StrT P U] (v : Value) (hx : a.eval x = v) {l : Bs} (h : ByW w v l)
    (k : wpList P ops Q rest (a.put o.dst (bstr l)) w) : wpList P ops Q (o :: rest) a w :=
  wpL_of hg (ex_str T U x ho hx h) (fun _ _ => Oper.semAt_eq _ _ _ (by simp [ho])) (fun _ => by simp [Oper.about, ho]) k
theorem sL_eqW (hg : Region.wanted o (yielded ops a.tmps) = true) (T T' : TypeId) (x y : Operand) (ho : o.op = .binOp .eql T x y T') {n} [h : IntArr P T n .u32] (l m : List UInt32) (hx : a.eval x = .agg (wvs l).toArray) (hy : a.eval y = .agg (wvs m).toArray) (hl : l.length = n) (hm : m.length = n)
    (k : wpList P ops Q rest (a.put o.dst (.bool (decide (l = m)))) w) : wpList P ops Q (o :: rest) a w :=
  wpL_of hg (ex_eql T T' x y ho hx hy (run_eqW hl hm)) (fun _ _ => Oper.semAt_eq _ _ _ (by simp [ho])) (fun _ => by simp [Oper.about, ho]) k
end
section
variable {P : Program} {l : List Oper} {Q : Exit → Act → World → Prop} {S : World → Prop} {need : List Nat} {a : Act} {w : World} {fuel : Nat} {listed : Array Bool}
theorem rg_str (i : Nat) {oi : Oper} (hi : l[i]? = some oi) (hk : (takeOK l listed i && needOK l need listed i) = true)
    (hw : Region.wanted oi (yielded l.toArray a.tmps) = true) (hS : S w) (T U : TypeId) (x : Operand) (ho : oi.op = .convert T U x) [hT : BytesT P T] [hU : StrT P U] (v : Value) (hx : a.eval x = v) {b : Bs}
    (hc : ∀ w, S w → ByW w v b) (hQ : ∀ c a w, Q (.panic c) (a.put oi.dst (bstr b)) w → Q (.panic c) a w)
    (h : wpX P l Q S need fuel (listed.setIfInBounds i true) (a.put oi.dst (bstr b)) w) : wpX P l Q S need (fuel + 1) listed a w :=
  rg_if i hi hk hS (.inl ⟨hw, fun w hS => ex_str T U x ho hx (hc w hS)⟩) hQ h
theorem rg_eqBS (i : Nat) {oi : Oper} (hi : l[i]? = some oi) (hk : (takeOK l listed i && needOK l need listed i) = true) (hw : Region.wanted oi (yielded l.toArray a.tmps) = true) (hS : S w)
    (T T' : TypeId) (x y : Operand) (ho : oi.op = .binOp .eql T x y T') {n} [h : IntArr P T n .u8] (b m : List UInt8) (hx : a.eval x = .agg (bvs b).toArray) (hy : a.eval y = .agg (bvs m).toArray) (hl : b.length = n) (hm : m.length = n)
    (hQ : ∀ c a w, Q (.panic c) (a.put oi.dst (.bool (decide (b = m)))) w → Q (.panic c) a w)
    (h : wpX P l Q S need fuel (listed.setIfInBounds i true) (a.put oi.dst (.bool (decide (b = m)))) w) : wpX P l Q S need (fuel + 1) listed a w :=
  rg_if i hi hk hS (.inl ⟨hw, fun _ _ => ex_eql T T' x y ho hx hy (run_eqB hl hm)⟩) hQ h
end
end Go.Proofs.YtmlgieclkedomaaGreat

namespace Go.Proofs.YtmlgieclkedomaaGreat
open Go
instance : StrT Tryz.prog 9 := ⟨by kernel_rfl⟩
instance : BytesT Tryz.prog 22 := ⟨by kernel_rfl⟩
instance : IntArr Tryz.prog 37 32 .u8 := ⟨by kernel_rfl⟩
instance : IntArr Tryz.prog 160 8 .u32 := ⟨by kernel_rfl⟩
instance : FuncT Tryz.prog 189 := ⟨by kernel_rfl⟩
instance : FuncT Tryz.prog 191 := ⟨by kernel_rfl⟩
end Go.Proofs.YtmlgieclkedomaaGreat

namespace Go.Proofs.YtmlgieclkedomaaGreat
open Go Go.RowKit

theorem trueB_step (c : UInt8) (l : Bs) : trueB (c :: l) = if c ≠ 0 ∧ (c ≠ 128 ∨ l ≠ []) then true else trueB l := by
  cases l with
  | nil => simp only [trueB]; by_cases h : c = 0 <;> by_cases h2 : c = 128 <;> simp_all
  | cons d l => simp only [trueB]; by_cases h : c = 0 <;> simp_all

theorem True_spec {I : Imm} {w : World} (hI : I.Holds w) {v : Value} {b : Bs} (h : RdB I v b) (hb : b.length ≤ 1000000) :
    Calls Tryz.prog 16 #[v] w fun e w' => e = .returned (.bool (trueB b)) ∧ w = w' := by
  obtain ⟨ad, c, rfl, h1, h2, h3⟩ := h.ex
  have hsrc := h.src hI
  go_enter Tryz.func16, Tryz.ntmps16
  go_wp2
  go_loopw [7] (fun v7 wr => ∃ k, k ≤ b.length ∧ v7 = .int .i64 (k : Nat) ∧ trueB b = trueB (b.drop k) ∧ w = wr) (fun v7 _ => b.length - (intOf v7).toNat)
  case atStart => exact ⟨0, by omega, rfl, by simp, rfl⟩
  case round =>
    obtain ⟨k, hk, rfl, ht, rfl⟩ := hrel
    by_cases hlt : k < b.length
    · obtain ⟨b0, j0, rfl, hc0⟩ := hsrc.resolve_left (by rintro ⟨_, h0⟩; have : b = [] := (by simpa using h0); rw [this] at hlt; simp at hlt)
      have hcell := hc0 k (bv b[k]) (by simp [hlt])
      have hst : trueB (b.drop k) = if b[k] ≠ 0 ∧ (b[k] ≠ 128 ∨ k + 1 < b.length) then true else trueB (b.drop (k + 1)) := by
        rw [List.drop_eq_getElem_cons hlt, trueB_step]
        congr 1
        simp [List.drop_eq_nil_iff]
      obtain ⟨d, hd⟩ : ∃ d, d = b[k] := ⟨_, rfl⟩
      obtain ⟨n, hn⟩ : ∃ n : Int, n = d.toNat := ⟨_, rfl⟩
      have e1 : d = 0 ↔ n = 0 := by rw [hn, ← UInt8.toNat_inj]; simp
      have e2 : d = 128 ↔ n = 128 := by rw [hn, ← UInt8.toNat_inj]; simp; omega
      rw [← hd] at hcell hst
      simp only [ne_eq, e1, e2] at hst
      have hcell : w.cell? ⟨b0, j0 + k, none⟩ = some (.int .u8 n) := by rw [hn]; exact hcell
      have Ht := Lib.hid ht
      have Hst := Lib.hid hst
      clear hd hn ht hst e1 e2 h3 hsrc hc0
      by_cases n0 : n = 0
      · subst n0
        go_wp2_with ((with_reducible refine gL_load ?_); refine sL_loadC rfl _ _ rfl _ _ rfl _ hcell ?_)
        go_roundw
        case rel => exact ⟨k + 1, hlt, by simp, by rw [Ht.out, Hst.out, if_neg (by simp)], trivial⟩
        case measure => simp [intOf]; omega
      · by_cases n1 : n = 128
        · subst n1
          by_cases hlast : k + 1 < b.length
          · have hi : (k : Int) < (b.length : Int) - 1 := by omega
            go_wp2_with ((with_reducible refine gL_load ?_); refine sL_loadC rfl _ _ rfl _ _ rfl _ hcell ?_)
            go_ret
            refine ⟨ret_bool ?_, rfl⟩
            rw [Ht.out, Hst.out, if_pos (by simp [hlast])]
          · have hi : ¬ (k : Int) < (b.length : Int) - 1 := by omega
            go_wp2_with ((with_reducible refine gL_load ?_); refine sL_loadC rfl _ _ rfl _ _ rfl _ hcell ?_)
            go_roundw
            case rel => exact ⟨k + 1, hlt, by simp, by rw [Ht.out, Hst.out, if_neg (by simp [hlast])], trivial⟩
            case measure => simp [intOf]; omega
        · go_wp2_with ((with_reducible refine gL_load ?_); refine sL_loadC rfl _ _ rfl _ _ rfl _ hcell ?_)
          go_ret
          refine ⟨ret_bool ?_, rfl⟩
          rw [Ht.out, Hst.out, if_pos (by simp [n0, n1])]
    · obtain rfl : k = b.length := by omega
      go_wp2
      go_ret
      refine ⟨ret_bool ?_, rfl⟩
      rw [ht, List.drop_length]; rfl

theorem Flag_spec {I : Imm} {w : World} (hI : I.Holds w) {x : Bool} :
    Calls Tryz.prog 136 #[.bool x] w fun e w' => ∃ ad c, e = .returned (.slice ad (flagB x).length c) ∧ Nx [] I w I [brow ad c (flagB x)] w' := by
  have hS := Nx.nil hI
  unfold flagB flagN
  go_enter Tryz.func136, Tryz.ntmps136
  cases x with
  | true =>
    go_wp2_with (first | (go_at_call 165; go_in) | (go_at_call 59; refine (form_spec hS.hI (by decide) (by decide)).mono ?_; rintro e w' ⟨v, rfl, hn⟩; replace hS := hS.pure1 hn; clear hn))
    go_ret
    obtain ⟨ad, c, rfl, _⟩ := hS.rowVal (i := 0) rfl
    exact ⟨ad, c, rfl, hS⟩
  | false =>
    go_wp2_with (first | (go_at_call 165; go_in) | (go_at_call 59; refine (form_spec hS.hI (by decide) (by decide)).mono ?_; rintro e w' ⟨v, rfl, hn⟩; replace hS := hS.pure1 hn; clear hn))
    go_ret
    obtain ⟨ad, c, rfl, _⟩ := hS.rowVal (i := 0) rfl
    exact ⟨ad, c, rfl, hS⟩

theorem bstr_inj {a b : Bs} : (ByteArray.toList ⟨a.toArray⟩ == ByteArray.toList ⟨b.toArray⟩) = decide (a = b) := by
  rw [ByteArray.toList_eq, ByteArray.toList_eq]
  rw [Bool.eq_iff_iff]; simp

theorem Equal_spec {w : World} {v u : Value} {a b : Bs} (ha : ByW w v a) (hb : ByW w u b) :
    Calls Tryz.prog 137 #[v, u] w fun e w' => e = .returned (.bool (decide (a = b))) ∧ w = w' := by
  go_enter Tryz.func137, Tryz.ntmps137
  go_wp2_with (first | ((with_reducible refine gL_conv ?_); refine sL_str rfl _ _ _ rfl _ rfl ha ?_) | ((with_reducible refine gL_conv ?_); refine sL_str rfl _ _ _ rfl _ rfl hb ?_))
  go_ret
  exact ⟨ret_bool (by rw [Bool.eq_iff_iff]; simp), rfl⟩

theorem Within_spec {w : World} {a b c : Int} :
    Calls Tryz.prog 135 #[.int .i64 a, .int .i64 b, .int .i64 c] w fun e w' => e = .returned (.bool (decide (b ≤ a ∧ a < c))) ∧ w = w' := by
  go_enter Tryz.func135, Tryz.ntmps135
  by_cases h1 : b ≤ a
  · by_cases h2 : a < c
    · go_wp2
      go_ret
      exact ⟨ret_bool (by simp [h1, h2]), rfl⟩
    · go_wp2
      go_ret
      exact ⟨ret_bool (by simp [h1, h2]), rfl⟩
  · go_wp2
    go_ret
    exact ⟨ret_bool (by simp; omega), rfl⟩
theorem numMay_spec {w : World} {a : Int} :
    Calls Tryz.prog 164 #[.int .i64 a] w fun e w' => e = .returned (.bool (mayN a)) ∧ w = w' := by
  go_enter Tryz.func164, Tryz.ntmps164
  by_cases h1 : -2147483647 ≤ a
  · by_cases h2 : a ≤ 2147483647
    · go_wp2
      go_ret
      exact ⟨ret_bool (by simp [mayN, h1, h2]), rfl⟩
    · go_wp2
      go_ret
      exact ⟨ret_bool (by simp [mayN, h1, h2]), rfl⟩
  · go_wp2
    go_ret
    exact ⟨ret_bool (by simp [mayN]; omega), rfl⟩

set_option maxRecDepth 100000 in
set_option maxHeartbeats 1000000 in
theorem One_spec {w : World} {c : UInt8} {n : Int} (hc : isOne c = true) (h1 : -9223372036854775808 ≤ n) (h2 : n ≤ 9223372036854775807) :
    Calls Tryz.prog 133 #[bv c, .int .i64 n] w fun e w' => e = .returned (.tuple #[.int .i64 (if mayN n then (onesN c n).getD 0 else 0), .int .i64 (if mayN n then 0 else 110)]) ∧ w = w' := by
  simp only [isOne, Bool.or_eq_true, decide_eq_true_eq] at hc
  by_cases hm : mayN n = true
  · have hm' : -2147483647 ≤ n ∧ n ≤ 2147483647 := by simpa [mayN] using hm
    rw [if_pos hm, if_pos hm]
    have Hm := Lib.hid hm
    clear hm
    rcases hc with ((((rfl | rfl) | rfl) | rfl) | rfl) | rfl
    all_goals
      show Calls _ _ #[.int .u8 _, _] _ _
      simp only [onesN, flagN]
      go_enter Tryz.func133, Tryz.ntmps133
      go_wp2
      all_goals go_ret2
      all_goals refine ⟨?_, rfl⟩
      all_goals first | rfl | (simp; done) | (simp; omega) | (simp_all; done) | (simp_all; omega) | (exfalso; omega)
  · rw [if_neg hm, if_neg hm]
    have hm' : mayN n = false := by simpa using hm
    clear hm
    rcases hc with ((((rfl | rfl) | rfl) | rfl) | rfl) | rfl
    all_goals
      show Calls _ _ #[.int .u8 _, _] _ _
      go_enter Tryz.func133, Tryz.ntmps133
      go_wp2_with (first | (go_at_call 164; refine (numMay_spec).mono ?_; rintro e w' ⟨rfl, rfl⟩; rw [hm']) | go_in)
      all_goals go_ret2
      all_goals exact ⟨rfl, rfl⟩

end Go.Proofs.YtmlgieclkedomaaGreat

namespace Go.Proofs.YtmlgieclkedomaaGreat
open Go Go.RowKit

theorem eq_code (c k : UInt8) (m : Int) (hm : m = k.toNat) {n : Int} (hn : n = c.toNat) : c = k ↔ n = m := by
  rw [← UInt8.toNat_inj, hm, hn]; omega
theorem ne_code (c k : UInt8) (m : Int) (hm : m = k.toNat) (h : ¬ c = k) {n : Int} (hn : n = c.toNat) : ¬ n = m := fun e => h ((eq_code c k m hm hn).2 e)

set_option maxRecDepth 100000 in
set_option maxHeartbeats 1000000 in
theorem Arity_spec {w : World} {c : UInt8} :
    Calls Tryz.prog 112 #[bv c] w fun e w' => e = .returned (.int .i64 (arityN c : Nat)) ∧ w = w' := by
  by_cases h1 : isOne c = true
  · unfold arityN
    rw [if_pos h1]
    simp only [isOne, Bool.or_eq_true, decide_eq_true_eq] at h1
    rcases h1 with ((((rfl | rfl) | rfl) | rfl) | rfl) | rfl
    all_goals
      show Calls _ _ #[.int .u8 _] _ _
      go_enter Tryz.func112, Tryz.ntmps112
      go_wp2
      go_ret
      exact ⟨rfl, rfl⟩
  · by_cases h2 : isTwo c = true
    · unfold arityN
      rw [if_neg h1, if_pos h2]
      clear h1
      simp only [isTwo, Bool.or_eq_true, decide_eq_true_eq] at h2
      rcases h2 with (((((((((((rfl | rfl) | rfl) | rfl) | rfl) | rfl) | rfl) | rfl) | rfl) | rfl) | rfl) | rfl) | rfl
      all_goals
        show Calls _ _ #[.int .u8 _] _ _
        go_enter Tryz.func112, Tryz.ntmps112
        go_wp2
        go_ret
        exact ⟨rfl, rfl⟩
    · unfold arityN
      rw [if_neg h1, if_neg h2]
      by_cases h3 : c = 165
      · subst h3
        rw [if_pos rfl]
        show Calls _ _ #[.int .u8 _] _ _
        go_enter Tryz.func112, Tryz.ntmps112
        go_wp2
        go_ret
        exact ⟨rfl, rfl⟩
      · rw [if_neg h3]
        obtain ⟨n, hn⟩ : ∃ n : Int, n = c.toNat := ⟨_, rfl⟩
        simp only [isOne, isTwo, Bool.or_eq_true, decide_eq_true_eq, not_or] at h1 h2
        obtain ⟨⟨⟨⟨⟨a1, a2⟩, a3⟩, a4⟩, a5⟩, a6⟩ := h1
        obtain ⟨⟨⟨⟨⟨⟨⟨⟨⟨⟨⟨⟨b1, b2⟩, b3⟩, b4⟩, b5⟩, b6⟩, b7⟩, b8⟩, b9⟩, b10⟩, b11⟩, b12⟩, b13⟩ := h2
        replace a1 := ne_code c 139 139 rfl a1 hn
        replace a2 := ne_code c 140 140 rfl a2 hn
        replace a3 := ne_code c 143 143 rfl a3 hn
        replace a4 := ne_code c 144 144 rfl a4 hn
        replace a5 := ne_code c 145 145 rfl a5 hn
        replace a6 := ne_code c 146 146 rfl a6 hn
        replace b1 := ne_code c 147 147 rfl b1 hn
        replace b2 := ne_code c 148 148 rfl b2 hn
        replace b3 := ne_code c 154 154 rfl b3 hn
        replace b4 := ne_code c 155 155 rfl b4 hn
        replace b5 := ne_code c 156 156 rfl b5 hn
        replace b6 := ne_code c 157 157 rfl b6 hn
        replace b7 := ne_code c 158 158 rfl b7 hn
        replace b8 := ne_code c 159 159 rfl b8 hn
        replace b9 := ne_code c 160 160 rfl b9 hn
        replace b10 := ne_code c 161 161 rfl b10 hn
        replace b11 := ne_code c 162 162 rfl b11 hn
        replace b12 := ne_code c 163 163 rfl b12 hn
        replace b13 := ne_code c 164 164 rfl b13 hn
        replace h3 := ne_code c 165 165 rfl h3 hn
        have hcv : bv c = .int .u8 n := by rw [hn]
        rw [hcv]
        clear hn hcv
        go_enter Tryz.func112, Tryz.ntmps112
        go_wp2
        go_ret
        exact ⟨rfl, rfl⟩
end Go.Proofs.YtmlgieclkedomaaGreat

namespace Go.Proofs.YtmlgieclkedomaaGreat
open Go Go.RowKit

def leastI (c : UInt8) : Int := match leastN c with | some n => n | none => -1
theorem leastI_eq (c : UInt8) (n : Int) (hn : n = c.toNat) : leastI c = if n = 116 ∨ n = 108 then 0
  else if n = 117 ∨ n = 118 ∨ n = 115 ∨ n = 130 ∨ n = 107 ∨ n = 121 ∨ n = 122 then 1
  else if n = 109 ∨ n = 110 ∨ n = 119 ∨ n = 120 ∨ n = 124 ∨ n = 125 then 2
  else if n = 111 ∨ n = 123 then 3
  else if n = 112 ∨ n = 114 then 4
  else if n = 113 then 6 else -1 := by
  unfold leastI leastN
  simp only [Bool.or_eq_true, decide_eq_true_eq, or_assoc, eq_code c 116 116 rfl hn, eq_code c 108 108 rfl hn, eq_code c 117 117 rfl hn, eq_code c 118 118 rfl hn, eq_code c 115 115 rfl hn, eq_code c 130 130 rfl hn, eq_code c 107 107 rfl hn, eq_code c 121 121 rfl hn, eq_code c 122 122 rfl hn, eq_code c 109 109 rfl hn, eq_code c 110 110 rfl hn, eq_code c 119 119 rfl hn, eq_code c 120 120 rfl hn, eq_code c 124 124 rfl hn, eq_code c 125 125 rfl hn, eq_code c 111 111 rfl hn, eq_code c 123 123 rfl hn, eq_code c 112 112 rfl hn, eq_code c 114 114 rfl hn, eq_code c 113 113 rfl hn]
  by_cases h1 : n = 116 ∨ n = 108
  · rw [if_pos h1, if_pos h1]; rfl
  · rw [if_neg h1, if_neg h1]
    by_cases h2 : n = 117 ∨ n = 118 ∨ n = 115 ∨ n = 130 ∨ n = 107 ∨ n = 121 ∨ n = 122
    · rw [if_pos h2, if_pos h2]; rfl
    · rw [if_neg h2, if_neg h2]
      by_cases h3 : n = 109 ∨ n = 110 ∨ n = 119 ∨ n = 120 ∨ n = 124 ∨ n = 125
      · rw [if_pos h3, if_pos h3]; rfl
      · rw [if_neg h3, if_neg h3]
        by_cases h4 : n = 111 ∨ n = 123
        · rw [if_pos h4, if_pos h4]; rfl
        · rw [if_neg h4, if_neg h4]
          by_cases h5 : n = 112 ∨ n = 114
          · rw [if_pos h5, if_pos h5]; rfl
          · rw [if_neg h5, if_neg h5]
            by_cases h6 : n = 113
            · rw [if_pos h6, if_pos h6]; rfl
            · rw [if_neg h6, if_neg h6]

set_option maxRecDepth 100000 in
set_option maxHeartbeats 1000000 in
theorem least_spec {w : World} {c : UInt8} : Calls Tryz.prog 127 #[bv c] w fun e w' => e = .returned (.int .i64 (leastI c)) ∧ w = w' := by
  obtain ⟨n, hn⟩ : ∃ n : Int, n = c.toNat := ⟨_, rfl⟩
  have Hm := Lib.hid (leastI_eq c n hn)
  have hcv : bv c = .int .u8 n := by rw [hn]
  rw [hcv]
  clear hn hcv
  go_enter Tryz.func127, Tryz.ntmps127
  go_wp2
  all_goals go_ret
  all_goals refine ⟨ret_int' ?_, rfl⟩
  all_goals rw [Hm.out]
  all_goals clear Hm
  all_goals (simp_all)

theorem Does_spec {w : World} {c : UInt8} : Calls Tryz.prog 110 #[bv c] w fun e w' => e = .returned (.bool (leastN c).isSome) ∧ w = w' := by
  go_enter Tryz.func110, Tryz.ntmps110
  have h : (leastN c).isSome = decide (0 ≤ leastI c) := by unfold leastI; cases leastN c <;> simp
  go_wp2_with (go_at_call 127; refine (least_spec).mono ?_; rintro e w' ⟨rfl, rfl⟩)
  go_ret
  exact ⟨ret_bool (by rw [h]), rfl⟩

section
variable {P : Program} {ρ : Operand → Value} {o : Oper} {w : World}
/-- as many elements of one cell as there are -/
theorem ex_litN (T : TypeId) (n : Nat) (ps : Array (Nat × Operand)) (ho : o.op = .buildSlice T n ps) {e bytes : Nat} [hT : SliceT P T e 1 bytes] (vs : List Value) (hn : vs.length = n) (hn0 : 0 < n) (hn1 : n ≤ 10000) (h1 : ∀ v ∈ vs, v.oneCell' = true)
    (hps : (ps.map fun (i, x) => (i, ρ x)).toList = (vs.zipIdx 0).map fun x => (x.2, x.1)) :
    (execOp ρ o).run P w = .ok (.value (.slice (some ⟨w.heap.size, 0, none⟩) n n)) (w.alloc (.cells vs.toArray e)) := by
  have hz2 : n * 1 ≤ 2 ^ 24 := Nat.le_trans (by omega) (show 10000 ≤ 2 ^ 24 by decide)
  refine ex_lit T n ps ho hz2 (by omega) vs.toArray (fun z hz => ?_)
  have h := Go.Great.fill_whole (by decide : 0 < 1) vs ((Array.range (n * 1)).map (z.cells[· % z.cells.size]!)) (fun v hv => by rw [cells_one' (h1 v hv)]; rfl) (by simp [hn])
  rw [hps, h]
  congr 2
  have : ∀ (l : List Value), (∀ v ∈ l, v.oneCell' = true) → l.flatMap (fun v => v.cells.toList) = l := by
    intro l hl
    induction l with
    | nil => rfl
    | cons a l ih => rw [List.flatMap_cons, cells_one (hl a (by simp)), ih (fun v hv => hl v (by simp [hv]))]; rfl
  rw [this vs h1]
end
section
variable {P : Program} {ops : Array Oper} {Q : Exit → Act → World → Prop} {a : Act} {w : World} {rest : List Oper} {o : Oper} {L0 : List Item} {I0 I : Imm} {w0 : World} {L : List Item}
theorem sL_litN (h : Nx L0 I0 w0 I L w) (hg : Region.wanted o (yielded ops a.tmps) = true) (T : TypeId) (n : Nat) (ps : Array (Nat × Operand)) (ho : o.op = .buildSlice T n ps) {e bytes : Nat} [hT : SliceT P T e 1 bytes] (vs : List Value) (hn : vs.length = n) (hn0 : 0 < n) (hn1 : n ≤ 10000) (h1 : ∀ v ∈ vs, v.oneCell' = true)
    (hps : (ps.map fun (i, x) => (i, a.eval x)).toList = (vs.zipIdx 0).map fun x => (x.2, x.1))
    (k : ∀ b w', w0.heap.size ≤ b → Nx L0 I0 w0 I (.blk b vs e :: L) w' → wpList P ops Q rest (a.put o.dst (.slice (some ⟨b, 0, none⟩) n n)) w') : wpList P ops Q (o :: rest) a w :=
  wpL_of hg (ex_litN T n ps ho vs hn hn0 hn1 h1 hps) (fun _ _ => Oper.semAt_eq _ _ _ (by simp [ho])) (fun _ => by simp [Oper.about, ho]) (k _ _ h.ev.size (h.alloc _ _))
end

theorem order_codes (c : UInt8) : (orderN c).isSome = true → c = 117 ∨ c = 109 ∨ c = 118 ∨ c = 110 ∨ c = 111 ∨ c = 112 ∨ c = 113 ∨ c = 114 ∨ c = 124 ∨ c = 119 ∨ c = 120 ∨ c = 123 ∨ c = 125 := by
  have h : ∀ b : Fin 256, (orderN (UInt8.ofFin b)).isSome = true → (fun c : UInt8 => c = 117 ∨ c = 109 ∨ c = 118 ∨ c = 110 ∨ c = 111 ∨ c = 112 ∨ c = 113 ∨ c = 114 ∨ c = 124 ∨ c = 119 ∨ c = 120 ∨ c = 123 ∨ c = 125) (UInt8.ofFin b) := by decide +kernel
  exact h c.toFin
theorem order_codes2 (c : UInt8) : orderN c = none → ¬ c = 117 ∧ ¬ c = 109 ∧ ¬ c = 118 ∧ ¬ c = 110 ∧ ¬ c = 111 ∧ ¬ c = 112 ∧ ¬ c = 113 ∧ ¬ c = 114 ∧ ¬ c = 124 ∧ ¬ c = 119 ∧ ¬ c = 120 ∧ ¬ c = 123 ∧ ¬ c = 125 := by
  have h : ∀ b : Fin 256, (orderN (UInt8.ofFin b)).isNone = true → (fun c : UInt8 => ¬ c = 117 ∧ ¬ c = 109 ∧ ¬ c = 118 ∧ ¬ c = 110 ∧ ¬ c = 111 ∧ ¬ c = 112 ∧ ¬ c = 113 ∧ ¬ c = 114 ∧ ¬ c = 124 ∧ ¬ c = 119 ∧ ¬ c = 120 ∧ ¬ c = 123 ∧ ¬ c = 125) (UInt8.ofFin b) := by decide +kernel
  intro hn
  exact h c.toFin (by show (orderN c).isNone = true; rw [hn]; rfl)
theorem Rd.nil0 {I : Imm} : Rd I (.slice none 0 0) 0 [] := ⟨⟨none, 0, rfl, Nat.le_refl _, Nat.zero_le _, .inl ⟨trivial, rfl, rfl, rfl⟩⟩⟩
def ordV (p : List Nat) : List Value := p.map fun i => .int .i64 (i : Nat)
theorem ordV_one (p : List Nat) : ∀ v ∈ ordV p, v.oneCell' = true := by
  intro v hv
  obtain ⟨i, _, rfl⟩ := List.mem_map.1 hv
  rfl
set_option maxRecDepth 100000 in
set_option maxHeartbeats 1000000 in
theorem order_spec {I : Imm} {w : World} (hI : I.Holds w) {c : UInt8} {p : List Nat} (h : orderN c = some p) :
    Calls Tryz.prog 142 #[bv c] w fun e w' => ∃ v J, e = .returned (.tuple #[v, .bool true]) ∧ Nx [] I w J [] w' ∧ Rd J v p.length (ordV p) := by
  have hS := Nx.nil hI
  have hc : c = 117 ∨ c = 109 ∨ c = 118 ∨ c = 110 ∨ c = 111 ∨ c = 112 ∨ c = 113 ∨ c = 114 ∨ c = 124 ∨ c = 119 ∨ c = 120 ∨ c = 123 ∨ c = 125 := order_codes c (by rw [h]; rfl)
  rcases hc with rfl | rfl | rfl | rfl | rfl | rfl | rfl | rfl | rfl | rfl | rfl | rfl | rfl
  all_goals
    have hp := Option.some.inj h
    have Hp := Lib.hid hp
    clear hp h
    show Calls _ _ #[.int .u8 _] _ _
    go_enter Tryz.func142, Tryz.ntmps142
    go_wp2_with ((with_reducible refine gL_lit ?_); refine sL_litN hS rfl _ _ _ rfl (ordV p) (by simp [ordV, ← Hp.out]) (by decide) (by decide) (ordV_one _) (by simp [ordV, ← Hp.out, Act.eval]) ?_; clear hS; intro b w' hb hS; obtain ⟨J, hS1, hle, hat⟩ := hS.freezeBlk hb; clear hS; have hS := hS1; clear hS1)
    go_ret2
    first
    | exact ⟨_, J, rfl, hS, by have hp := Hp.out; subst hp; exact Rd.ofBlk hat (by decide)⟩
    | exact ⟨_, _, rfl, hS, by rw [← Hp.out]; exact Rd.nil0⟩
set_option maxRecDepth 100000 in
theorem orderNo_spec {w : World} {c : UInt8} (h : orderN c = none) :
    Calls Tryz.prog 142 #[bv c] w fun e w' => e = .returned (.tuple #[.slice none 0 0, .bool false]) ∧ w = w' := by
  obtain ⟨n, hn⟩ : ∃ n : Int, n = c.toNat := ⟨_, rfl⟩
  have hno : ¬ c = 117 ∧ ¬ c = 109 ∧ ¬ c = 118 ∧ ¬ c = 110 ∧ ¬ c = 111 ∧ ¬ c = 112 ∧ ¬ c = 113 ∧ ¬ c = 114 ∧ ¬ c = 124 ∧ ¬ c = 119 ∧ ¬ c = 120 ∧ ¬ c = 123 ∧ ¬ c = 125 := order_codes2 c h
  obtain ⟨a0, a1, a2, a3, a4, a5, a6, a7, a8, a9, a10, a11, a12⟩ := hno
  have hcv : bv c = .int .u8 n := by rw [hn]
  rw [hcv]
  replace a0 := ne_code c 117 117 rfl a0 hn
  replace a1 := ne_code c 109 109 rfl a1 hn
  replace a2 := ne_code c 118 118 rfl a2 hn
  replace a3 := ne_code c 110 110 rfl a3 hn
  replace a4 := ne_code c 111 111 rfl a4 hn
  replace a5 := ne_code c 112 112 rfl a5 hn
  replace a6 := ne_code c 113 113 rfl a6 hn
  replace a7 := ne_code c 114 114 rfl a7 hn
  replace a8 := ne_code c 124 124 rfl a8 hn
  replace a9 := ne_code c 119 119 rfl a9 hn
  replace a10 := ne_code c 120 120 rfl a10 hn
  replace a11 := ne_code c 123 123 rfl a11 hn
  replace a12 := ne_code c 125 125 rfl a12 hn
  clear hn hcv h
  go_enter Tryz.func142, Tryz.ntmps142
  go_wp2
  go_ret2
  exact ⟨rfl, rfl⟩
end Go.Proofs.YtmlgieclkedomaaGreat

namespace Go.Proofs.YtmlgieclkedomaaGreat
open Go Go.RowKit

def maskB (b : Bs) : Bs := match b.getLast? with | none => [] | some c => if c ≥ 128 then b.dropLast ++ [c &&& 127] else b
theorem leN_append (a : Bs) (c : UInt8) : leN (a ++ [c]) = leN a + c.toNat * 256 ^ a.length := by
  induction a with
  | nil => simp [leN]
  | cons x a ih =>
    simp only [List.cons_append, leN, ih, List.length_cons, Nat.pow_succ]
    have : 256 * (c.toNat * 256 ^ a.length) = c.toNat * (256 ^ a.length * 256) := by rw [Nat.mul_left_comm, Nat.mul_comm 256 (256 ^ a.length)]
    rw [Nat.mul_add, this]; omega
theorem leN_lt (a : Bs) : leN a < 256 ^ a.length := by
  induction a with
  | nil => simp [leN]
  | cons x a ih => have := x.toNat_lt; simp only [leN, List.length_cons, Nat.pow_succ]; omega
theorem maskB_len (b : Bs) : (maskB b).length = b.length := by
  unfold maskB
  cases h : b.getLast? with
  | none => simp at h; simp [h]
  | some c =>
    have hb : b ≠ [] := by rintro rfl; simp at h
    have := List.length_pos_iff.2 hb
    simp only
    split
    · simp; omega
    · rfl
theorem bits_or_comm (k : IntKind) (x y : Int) : bits .or k x y = bits .or k y x := by
  simp only [bits]
  rw [BitVec.or_comm]
theorem or_join64 (i : Nat) (hi : i ≤ 62) (x y : Int) (hx₀ : 0 ≤ y) (hx : y % 2 ^ i = 0) (hx₁ : y < 2 ^ 63) (hy₀ : 0 ≤ x) (hy : x < 2 ^ i) : bits .or .i64 x y = x + y := by
  rw [bits_or_comm, bits_join .i64 63 (by decide) (fun n h1 h2 => by rw [IntKind.wrap_i64]; omega) i y x hx₀ hx hx₁ hy₀ hy (Int.lt_of_lt_of_le hy (by exact_mod_cast Nat.pow_le_pow_right (by decide : 0 < 2) (by omega : i ≤ 63)))]
  omega
theorem and127 (c : UInt8) : bits .andNot .u8 (c.toNat : Int) 128 = ((c &&& 127).toNat : Int) := by
  have := u8_andNot_nat c.toNat 128 c.toNat_lt (by decide)
  rw [show ((128 : Nat) : Int) = 128 from rfl] at this
  rw [this, UInt8.toNat_and]
  rfl
/-- the parts of a number's bytes -/
theorem maskB_at (b : Bs) (k : Nat) (hk : k < b.length) : (maskB b)[k]? = some (if k + 1 = b.length ∧ b[k] ≥ 128 then b[k] &&& 127 else b[k]) := by
  have hb : b ≠ [] := by rintro rfl; simp at hk
  have hl : b.getLast? = some (b.getLast hb) := List.getLast?_eq_some_getLast hb
  have hg : b.getLast hb = b[b.length - 1] := List.getLast_eq_getElem hb
  unfold maskB
  rw [hl]
  simp only
  by_cases hlast : k + 1 = b.length
  · have hk' : k = b.length - 1 := by omega
    subst hk'
    rw [hg]
    by_cases hc : b[b.length - 1] ≥ 128
    · rw [if_pos hc, if_pos ⟨hlast, hc⟩, List.getElem?_append_right (by simp)]; simp
    · rw [if_neg hc, if_neg (fun h => hc h.2), List.getElem?_eq_getElem hk]
  · rw [if_neg (show ¬ (k + 1 = b.length ∧ b[k] ≥ 128) from fun h => hlast h.1)]
    by_cases hc : b.getLast hb ≥ 128
    · rw [if_pos hc, List.getElem?_append_left (by simp; omega), List.getElem?_dropLast, if_pos (by omega), List.getElem?_eq_getElem hk]
    · rw [if_neg hc, List.getElem?_eq_getElem hk]
def sgnB (b : Bs) (k : Nat) : Int := if k = b.length ∧ (∃ c, b.getLast? = some c ∧ c ≥ 128) then -1 else 1
theorem decI_eq (b : Bs) : decI b = (leN (maskB b) : Int) * sgnB b b.length := by
  unfold decI maskB sgnB
  cases h : b.getLast? with
  | none => simp [leN]
  | some c =>
    simp only
    by_cases hc : c ≥ 128
    · rw [if_pos hc, if_pos hc, if_pos (by simp [hc])]; omega
    · rw [if_neg hc, if_neg hc, if_neg (by rintro ⟨_, d, hd, hd2⟩; cases hd; exact hc hd2)]; omega

theorem leN_take_succ (m : Bs) (k : Nat) (d : UInt8) (h : m[k]? = some d) : leN (m.take (k + 1)) = leN (m.take k) + d.toNat * 256 ^ k := by
  obtain ⟨hk, rfl⟩ := List.getElem?_eq_some_iff.1 h
  rw [List.take_succ_eq_append_getElem hk, leN_append, List.length_take, Nat.min_eq_left (by omega)]

set_option maxRecDepth 100000 in
set_option maxHeartbeats 4000000 in
theorem Decode_spec {I : Imm} {w : World} (hI : I.Holds w) {v : Value} {b : Bs} (h : RdB I v b) (hb : b.length ≤ 1000000) :
    Calls Tryz.prog 169 #[v] w fun e w' => e = .returned (.tuple (match decB b with | some n => #[.int .i64 n, .int .i64 0] | none => #[.int .i64 0, .int .i64 110])) ∧ ∃ J, Nx [] I w J [] w' := by
  obtain ⟨ad, c, rfl, h1, h2, h3⟩ := h.ex
  have hsrc := h.src hI
  have hS := Nx.nil hI
  obtain ⟨R, hR⟩ : ∃ R, R = (match decB b with | some n => #[Value.int .i64 n, .int .i64 0] | none => #[.int .i64 0, .int .i64 110]) := ⟨_, rfl⟩
  have HR := Lib.hid hR
  rw [← hR]
  clear hR
  obtain ⟨n, hn⟩ : ∃ n, n = b.length := ⟨_, rfl⟩
  have Hn := Lib.hid hn
  rw [← hn] at hb h1
  rw [← hn]
  have Hrd : Hid (RdB I (.slice ad n c) b) := Lib.hid (by rw [hn]; exact h)
  clear hn h
  by_cases hlong : n ≤ 4
  · have hi : (n : Int) ≤ 4 := by omega
    go_enter Tryz.func169, Tryz.ntmps169
    go_wp2
    go_loopw [4, 5, 13] (fun v4 v5 v13 wr => ∃ k, k ≤ n ∧ v13 = .int .i64 (k : Nat) ∧ v4 = .int .i64 (leN ((maskB b).take k) : Nat) ∧ v5 = .int .i64 (sgnB b k) ∧ w = wr) (fun _ _ v13 _ => n - (intOf v13).toNat)
    case atStart => exact ⟨0, by omega, rfl, by simp [leN], by unfold sgnB; rw [if_neg]; rintro ⟨h, c, hc, _⟩; have : b = [] := List.eq_nil_of_length_eq_zero h.symm; rw [this] at hc; simp at hc, rfl⟩
    case round =>
      obtain ⟨k, hk, rfl, rfl, rfl, rfl⟩ := hrel
      by_cases hlt : k < n
      · have hltb : k < b.length := by rw [← Hn.out]; exact hlt
        obtain ⟨b0, j0, rfl, hc0⟩ := hsrc.resolve_left (by rintro ⟨_, h0⟩; have : b = [] := (by simpa using h0); rw [this] at hltb; simp at hltb)
        have hcell := hc0 k (bv b[k]) (by simp [hltb])
        have hm := maskB_at b k hltb
        obtain ⟨d, hd⟩ : ∃ d, d = b[k] := ⟨_, rfl⟩
        have hs1 : sgnB b k = 1 := by unfold sgnB; rw [if_neg (by omega)]
        have hlast : k + 1 = b.length → b.getLast? = some d := fun e => by rw [List.getLast?_eq_getElem?, show b.length - 1 = k by omega, hd]; simp [hltb]
        have hs2 : sgnB b (k + 1) = if k + 1 = n ∧ d ≥ 128 then -1 else 1 := by
          rw [Hn.out]
          unfold sgnB
          by_cases e : k + 1 = b.length
          · rw [hlast e]; simp [e]
          · rw [if_neg (fun h => e h.1), if_neg (fun h => e h.1)]
        rw [← hd, ← Hn.out] at hm
        rw [← hd] at hcell
        have hx := leN_lt ((maskB b).take k)
        have hxl : ((maskB b).take k).length = k := by rw [List.length_take, maskB_len]; omega
        rw [hxl] at hx
        obtain ⟨x, hxe⟩ : ∃ x, x = leN ((maskB b).take k) := ⟨_, rfl⟩
        rw [← hxe] at hx
        have Hxe := Lib.hid hxe
        have Hm := Lib.hid hm
        have Hs2 := Lib.hid hs2
        rw [hs1, ← hxe]
        clear hd hm hs1 hs2 hlast hxe hxl h3 hsrc hc0 hltb
        have hdl := d.toNat_lt
        have hk4 : k = 0 ∨ k = 1 ∨ k = 2 ∨ k = 3 := by omega
        by_cases hneg : k + 1 = n ∧ d ≥ 128
        · obtain ⟨hk1, hd128⟩ := hneg
          have hb1 := and128_pos d hd128
          have hb2 := and127 d
          obtain ⟨y, hy⟩ : ∃ y : Nat, y = (d &&& 127).toNat := ⟨_, rfl⟩
          have hyl : y < 256 := by rw [hy]; exact (d &&& 127).toNat_lt
          have hst : leN ((maskB b).take (k + 1)) = x + y * 256 ^ k := by
            rw [leN_take_succ _ _ _ Hm.out, if_pos ⟨hk1, hd128⟩, Hxe.out, hy]
          have hsg : sgnB b (k + 1) = -1 := by rw [Hs2.out, if_pos ⟨hk1, hd128⟩]
          rw [← hy] at hb2
          have Hst := Lib.hid hst
          have Hsg := Lib.hid hsg
          clear hy hst hsg
          rcases hk4 with rfl | rfl | rfl | rfl
          · obtain rfl : n = 1 := by omega
            have hor := or_join64 0 (by decide) x (y) (by omega) (by omega) (by omega) (by omega) (by omega)
            go_wp2_with ((with_reducible refine gL_load ?_); refine sL_loadC rfl _ _ rfl _ _ rfl _ hcell ?_)
            go_roundw
            case rel =>
              first
              | (refine ⟨1, by omega, ?_, ?_, ?_, trivial⟩ <;> first | rfl | (rw [Hst.out]; simp; done) | rw [Hst.out] | rw [Hsg.out])
              | (refine ⟨_, _, _, _, _, ⟨1, by omega, ?_, ?_, ?_⟩, rfl, rfl, rfl, rfl, rfl⟩ <;> first | rfl | (rw [Hst.out]; simp; done) | rw [Hst.out] | rw [Hsg.out])
            case measure => first | (simp [intOf]; done) | (simp [intOf]; omega)
          · obtain rfl : n = 2 := by omega
            have hor := or_join64 8 (by decide) x (y * 256) (by omega) (by omega) (by omega) (by omega) (by omega)
            go_wp2_with ((with_reducible refine gL_load ?_); refine sL_loadC rfl _ _ rfl _ _ rfl _ hcell ?_)
            go_roundw
            case rel =>
              first
              | (refine ⟨2, by omega, ?_, ?_, ?_, trivial⟩ <;> first | rfl | (rw [Hst.out]; simp; done) | rw [Hst.out] | rw [Hsg.out])
              | (refine ⟨_, _, _, _, _, ⟨2, by omega, ?_, ?_, ?_⟩, rfl, rfl, rfl, rfl, rfl⟩ <;> first | rfl | (rw [Hst.out]; simp; done) | rw [Hst.out] | rw [Hsg.out])
            case measure => first | (simp [intOf]; done) | (simp [intOf]; omega)
          · obtain rfl : n = 3 := by omega
            have hor := or_join64 16 (by decide) x (y * 65536) (by omega) (by omega) (by omega) (by omega) (by omega)
            go_wp2_with ((with_reducible refine gL_load ?_); refine sL_loadC rfl _ _ rfl _ _ rfl _ hcell ?_)
            go_roundw
            case rel =>
              first
              | (refine ⟨3, by omega, ?_, ?_, ?_, trivial⟩ <;> first | rfl | (rw [Hst.out]; simp; done) | rw [Hst.out] | rw [Hsg.out])
              | (refine ⟨_, _, _, _, _, ⟨3, by omega, ?_, ?_, ?_⟩, rfl, rfl, rfl, rfl, rfl⟩ <;> first | rfl | (rw [Hst.out]; simp; done) | rw [Hst.out] | rw [Hsg.out])
            case measure => first | (simp [intOf]; done) | (simp [intOf]; omega)
          · obtain rfl : n = 4 := by omega
            have hor := or_join64 24 (by decide) x (y * 16777216) (by omega) (by omega) (by omega) (by omega) (by omega)
            go_wp2_with ((with_reducible refine gL_load ?_); refine sL_loadC rfl _ _ rfl _ _ rfl _ hcell ?_)
            go_roundw
            case rel =>
              first
              | (refine ⟨4, by omega, ?_, ?_, ?_, trivial⟩ <;> first | rfl | (rw [Hst.out]; simp; done) | rw [Hst.out] | rw [Hsg.out])
              | (refine ⟨_, _, _, _, _, ⟨4, by omega, ?_, ?_, ?_⟩, rfl, rfl, rfl, rfl, rfl⟩ <;> first | rfl | (rw [Hst.out]; simp; done) | rw [Hst.out] | rw [Hsg.out])
            case measure => first | (simp [intOf]; done) | (simp [intOf]; omega)
        · have hst : leN ((maskB b).take (k + 1)) = x + d.toNat * 256 ^ k := by
            rw [leN_take_succ _ _ _ Hm.out, if_neg hneg, Hxe.out]
          have hsg : sgnB b (k + 1) = 1 := by rw [Hs2.out, if_neg hneg]
          have Hst := Lib.hid hst
          have Hsg := Lib.hid hsg
          have hcs : k + 1 < n ∨ (k + 1 = n ∧ ¬ d ≥ 128) := by
            by_cases e : k + 1 = n
            · exact .inr ⟨e, fun h => hneg ⟨e, h⟩⟩
            · exact .inl (by omega)
          clear hst hsg hneg
          rcases hcs with hnl | ⟨hk1, hd128⟩
          · rcases hk4 with rfl | rfl | rfl | rfl
            · have hor := or_join64 0 (by decide) x (d.toNat) (by omega) (by omega) (by omega) (by omega) (by omega)
              go_wp2_with ((with_reducible refine gL_load ?_); refine sL_loadC rfl _ _ rfl _ _ rfl _ hcell ?_)
              go_roundw
              case rel => exact ⟨1, by omega, by simp, by rw [Hst.out]; simp, by rw [Hsg.out], trivial⟩
              case measure => first | (simp [intOf]; done) | (simp [intOf]; omega)
            · have hor := or_join64 8 (by decide) x (d.toNat * 256) (by omega) (by omega) (by omega) (by omega) (by omega)
              go_wp2_with ((with_reducible refine gL_load ?_); refine sL_loadC rfl _ _ rfl _ _ rfl _ hcell ?_)
              go_roundw
              case rel => exact ⟨2, by omega, by simp, by rw [Hst.out]; simp, by rw [Hsg.out], trivial⟩
              case measure => first | (simp [intOf]; done) | (simp [intOf]; omega)
            · have hor := or_join64 16 (by decide) x (d.toNat * 65536) (by omega) (by omega) (by omega) (by omega) (by omega)
              go_wp2_with ((with_reducible refine gL_load ?_); refine sL_loadC rfl _ _ rfl _ _ rfl _ hcell ?_)
              go_roundw
              case rel => exact ⟨3, by omega, by simp, by rw [Hst.out]; simp, by rw [Hsg.out], trivial⟩
              case measure => first | (simp [intOf]; done) | (simp [intOf]; omega)
            · exfalso; omega
          · have hb1 := and128_not d hd128
            rcases hk4 with rfl | rfl | rfl | rfl
            · obtain rfl : n = 1 := by omega
              have hor := or_join64 0 (by decide) x (d.toNat) (by omega) (by omega) (by omega) (by omega) (by omega)
              go_wp2_with ((with_reducible refine gL_load ?_); refine sL_loadC rfl _ _ rfl _ _ rfl _ hcell ?_)
              go_roundw
              case rel =>
                first
                | (refine ⟨1, by omega, ?_, ?_, ?_, trivial⟩ <;> first | rfl | (rw [Hst.out]; simp; done) | rw [Hst.out] | rw [Hsg.out])
                | (refine ⟨_, _, _, _, _, ⟨1, by omega, ?_, ?_, ?_⟩, rfl, rfl, rfl, rfl, rfl⟩ <;> first | rfl | (rw [Hst.out]; simp; done) | rw [Hst.out] | rw [Hsg.out])
              case measure => first | (simp [intOf]; done) | (simp [intOf]; omega)
            · obtain rfl : n = 2 := by omega
              have hor := or_join64 8 (by decide) x (d.toNat * 256) (by omega) (by omega) (by omega) (by omega) (by omega)
              go_wp2_with ((with_reducible refine gL_load ?_); refine sL_loadC rfl _ _ rfl _ _ rfl _ hcell ?_)
              go_roundw
              case rel =>
                first
                | (refine ⟨2, by omega, ?_, ?_, ?_, trivial⟩ <;> first | rfl | (rw [Hst.out]; simp; done) | rw [Hst.out] | rw [Hsg.out])
                | (refine ⟨_, _, _, _, _, ⟨2, by omega, ?_, ?_, ?_⟩, rfl, rfl, rfl, rfl, rfl⟩ <;> first | rfl | (rw [Hst.out]; simp; done) | rw [Hst.out] | rw [Hsg.out])
              case measure => first | (simp [intOf]; done) | (simp [intOf]; omega)
            · obtain rfl : n = 3 := by omega
              have hor := or_join64 16 (by decide) x (d.toNat * 65536) (by omega) (by omega) (by omega) (by omega) (by omega)
              go_wp2_with ((with_reducible refine gL_load ?_); refine sL_loadC rfl _ _ rfl _ _ rfl _ hcell ?_)
              go_roundw
              case rel =>
                first
                | (refine ⟨3, by omega, ?_, ?_, ?_, trivial⟩ <;> first | rfl | (rw [Hst.out]; simp; done) | rw [Hst.out] | rw [Hsg.out])
                | (refine ⟨_, _, _, _, _, ⟨3, by omega, ?_, ?_, ?_⟩, rfl, rfl, rfl, rfl, rfl⟩ <;> first | rfl | (rw [Hst.out]; simp; done) | rw [Hst.out] | rw [Hsg.out])
              case measure => first | (simp [intOf]; done) | (simp [intOf]; omega)
            · obtain rfl : n = 4 := by omega
              have hor := or_join64 24 (by decide) x (d.toNat * 16777216) (by omega) (by omega) (by omega) (by omega) (by omega)
              go_wp2_with ((with_reducible refine gL_load ?_); refine sL_loadC rfl _ _ rfl _ _ rfl _ hcell ?_)
              go_roundw
              case rel =>
                first
                | (refine ⟨4, by omega, ?_, ?_, ?_, trivial⟩ <;> first | rfl | (rw [Hst.out]; simp; done) | rw [Hst.out] | rw [Hsg.out])
                | (refine ⟨_, _, _, _, _, ⟨4, by omega, ?_, ?_, ?_⟩, rfl, rfl, rfl, rfl, rfl⟩ <;> first | rfl | (rw [Hst.out]; simp; done) | rw [Hst.out] | rw [Hsg.out])
              case measure => first | (simp [intOf]; done) | (simp [intOf]; omega)
      · obtain rfl : k = n := by omega
        have hnb := Hn.out
        have hfin : leN ((maskB b).take k) = leN (maskB b) := by rw [List.take_of_length_le (by rw [maskB_len]; omega)]
        have hdec : decI b = (leN (maskB b) : Int) * sgnB b k := by rw [decI_eq, ← Hn.out]
        have hxl := leN_lt (maskB b)
        have hx4 : leN (maskB b) < 256 ^ 4 := Nat.lt_of_lt_of_le hxl (Nat.pow_le_pow_right (by decide) (by rw [maskB_len]; omega))
        have hsg : sgnB b k = 1 ∨ sgnB b k = -1 := by unfold sgnB; split <;> simp
        obtain ⟨x, hx⟩ : ∃ x, x = leN (maskB b) := ⟨_, rfl⟩
        obtain ⟨s, hs⟩ : ∃ s, s = sgnB b k := ⟨_, rfl⟩
        rw [hfin, ← hx, ← hs]
        rw [← hx, ← hs] at hdec
        rw [← hx] at hx4
        rw [← hs] at hsg
        have Hdec := Lib.hid hdec
        have hby := hsrc
        clear hfin hdec hxl hx hs h3 hnb
        have hm1 : -4294967296 < (x : Int) * s := by rcases hsg with rfl | rfl <;> omega
        have hm2 : (x : Int) * s < 4294967296 := by rcases hsg with rfl | rfl <;> omega
        obtain ⟨m, hm⟩ : ∃ m : Int, m = (x : Int) * s := ⟨_, rfl⟩
        rw [← hm] at hm1 hm2
        have hw : wrap64 ((x : Int) * s) = m := by rw [← hm]; exact IntWalk.wrap64_in _ (by omega)
        have Hm := Lib.hid hm
        clear hsg hm
        have hdm : decI b = m := by rw [Hdec.out, Hm.out]
        have hl4 : b.length ≤ 4 := by rw [← Hn.out]; exact hlong
        obtain ⟨q, hq⟩ : ∃ q, q = numB m := ⟨_, rfl⟩
        have HRm : Hid (R = if q = b then #[Value.int .i64 m, .int .i64 0] else #[.int .i64 0, .int .i64 110]) := Lib.hid (by
          rw [HR.out]
          unfold decB
          rw [hdm, ← hq]
          by_cases e : q = b
          · rw [if_pos ⟨hl4, e⟩, if_pos e]
          · rw [if_neg (fun h => e h.2), if_neg e])
        have Hq := Lib.hid hq
        clear hdm hl4 hq
        by_cases he : q = b
        · have hdecd : decide (q = b) = true := decide_eq_true he
          have He := Lib.hid he
          clear he hsrc
          go_wp2_with fail
          go_at_call 59
          refine (form_spec (n := m) hS.hI (by omega) (by omega)).mono ?_
          rintro e w' ⟨v, rfl, hn⟩
          rw [← Hq.out] at hn
          obtain ⟨fa, fc, rfl, _⟩ := hn.rowVal (i := 0) rfl
          obtain ⟨J, hS1, hle, hrd⟩ := hS.pureFreeze hn
          clear hS hn
          have hS := hS1
          clear hS1
          have e1 := RdB.byW hrd hS.hI
          have e2 := RdB.byW (Hrd.out.mono hle) hS.hI
          go_wp2_with fail
          go_at_call 137
          refine (Equal_spec e1 e2).mono ?_
          rintro e w' ⟨rfl, rfl⟩
          rw [hdecd]
          go_wp2_with fail
          go_ret2
          rw [HRm.out, if_pos He.out]
          exact ⟨rfl, J, hS⟩
        · have hdecd : decide (q = b) = false := decide_eq_false he
          have He := Lib.hid he
          clear he hsrc
          go_wp2_with fail
          go_at_call 59
          refine (form_spec (n := m) hS.hI (by omega) (by omega)).mono ?_
          rintro e w' ⟨v, rfl, hn⟩
          rw [← Hq.out] at hn
          obtain ⟨fa, fc, rfl, _⟩ := hn.rowVal (i := 0) rfl
          obtain ⟨J, hS1, hle, hrd⟩ := hS.pureFreeze hn
          clear hS hn
          have hS := hS1
          clear hS1
          have e1 := RdB.byW hrd hS.hI
          have e2 := RdB.byW (Hrd.out.mono hle) hS.hI
          go_wp2_with fail
          go_at_call 137
          refine (Equal_spec e1 e2).mono ?_
          rintro e w' ⟨rfl, rfl⟩
          rw [hdecd]
          go_wp2_with fail
          go_ret2
          rw [HRm.out, if_neg He.out]
          exact ⟨rfl, J, hS⟩
  · have hi : 4 < (n : Int) := by omega
    go_enter Tryz.func169, Tryz.ntmps169
    go_wp2
    go_ret2
    have hd : decB b = none := by unfold decB; rw [if_neg (by rw [← Hn.out]; omega)]
    rw [HR.out, hd]
    exact ⟨rfl, I, hS⟩
end Go.Proofs.YtmlgieclkedomaaGreat

namespace Go.Proofs.YtmlgieclkedomaaGreat
open Go Go.RowKit

theorem twin_spec {I : Imm} {w : World} (hI : I.Holds w) {v : Value} {l : List Bs} (h : LsAt I w v l) (hlen : l.length ≤ 100000) (hb : ∀ b ∈ l, b.length ≤ 1000000) :
    Calls Tryz.prog 52 #[v] w fun e w' => ∃ J ad c xs, e = .returned (.slice ad l.length c) ∧ Nx [] I w J [.row 1 22 (.slice ad l.length c) l.length xs] w' ∧ Reps J l xs := by
  obtain ⟨ad, c, xs0, rfl, k1, k2, k3, hsrc, hreps0⟩ := h.ex
  have hS := (Nx.nil hI).nilRow 1 22
  have Hb := Lib.hid hb
  clear hb
  go_enter Tryz.func52, Tryz.ntmps52
  go_wp2
  go_loopw [3, 8] (fun v3 v8 wr => ∃ k K a1 c1 xs, k ≤ l.length ∧ v8 = .int .i64 (k : Nat) ∧ v3 = .slice a1 k c1 ∧ I.Le K ∧ Reps K (l.take k) xs ∧ Nx [] I w K [.row 1 22 (.slice a1 k c1) k xs] wr) (fun _ v8 _ => l.length - (intOf v8).toNat)
  case atStart => exact ⟨0, I, none, 0, [], by omega, rfl, rfl, .refl _, rfl, hS⟩
  case round =>
    clear hS
    obtain ⟨k, K, a1, c1, xs, hk, rfl, rfl, hle, hreps, hS⟩ := hrel
    by_cases hlt : k < l.length
    · obtain ⟨ea, ec, hxk, hrd⟩ := RepsB.at hreps0 k hlt
      obtain ⟨x, hx⟩ : ∃ x, x = l[k] := ⟨_, rfl⟩
      have hxl : x.length ≤ 1000000 := Hb.out x (by rw [hx]; exact List.getElem_mem hlt)
      have hst : l.take (k + 1) = l.take k ++ [x] := by rw [List.take_succ_eq_append_getElem hlt, hx]
      rw [← hx] at hxk hrd
      have Hst := Lib.hid hst
      have Hreps := Lib.hid hreps
      clear hx hst hreps
      obtain ⟨b0, j0, rfl, hc0⟩ := hsrc.resolve_left (by rintro ⟨_, rfl⟩; simp at hxk)
      have hcell := hS.cell0 (hc0 k _ hxk)
      go_wp2_with (first | ((with_reducible refine gL_load ?_); refine sL_loadC rfl _ _ rfl _ _ rfl _ hcell ?_) | (go_at_call 49; refine (Clone_spec hS.hI (hrd.mono hle) (by omega)).mono ?_; rintro e w' ⟨ca, cc, rfl, hn⟩; obtain ⟨K2, hS2, hle2, hrd2⟩ := hS.pureFreeze hn; clear hS hn; have hS := hS2; clear hS2) | ((with_reducible refine gL_lit ?_); first | (refine sL_lit0 hS rfl _ rfl ?_; clear hS; intro lb w' hlb hS) | (refine sL_lit1 hS rfl _ _ rfl _ (by go_simp; first | exact rfl | exact ⟨rfl, rfl⟩) rfl ?_; clear hS; intro lb w' hlb hS) | (refine sL_lit2 hS rfl _ _ _ rfl _ _ (by go_simp; first | exact rfl | exact ⟨rfl, rfl⟩) (by go_simp; first | exact rfl | exact ⟨rfl, rfl⟩) rfl rfl ?_; clear hS; intro lb w' hlb hS) | (refine sL_lit12 hS rfl _ _ rfl _ _ (by go_simp; first | exact rfl | exact ⟨rfl, rfl⟩) ?_; clear hS; intro lb w' hlb hS)) | ((with_reducible refine gL_app ?_); (refine sL_append hS rfl _ _ _ rfl 1 _ _ _ rfl rfl _ _ _ _ rfl (by first | (simp; done) | (simp only [List.length_map]; omega)) (hS.srcBlk (i := 0) rfl) (by simp [Value.oneCell']) (by first | omega | (simp only [List.length_append, List.length_cons, List.length_nil]; omega)) ?_; clear hS; intro ad' c' w' hS hnil hown; simp only [List.set_cons_zero, List.set_cons_succ] at hS; replace hS := hS.drop)))
      go_roundw
      case rel =>
        refine ⟨k + 1, K2, ad', c', xs ++ [.slice ca x.length cc], hlt, by simp, rfl, hle.trans hle2, ?_, hS⟩
        rw [Hst.out]; exact (Hreps.out.mono hle2).append (RepsB.one hrd2)
      case measure => simp [intOf]; omega
    · obtain rfl : k = l.length := by omega
      rw [List.take_length] at hreps
      have Hreps := Lib.hid hreps
      clear hreps
      go_wp2
      go_ret
      exact ⟨K, a1, c1, xs, rfl, hS, Hreps.out⟩

theorem All_spec {I : Imm} {w : World} (hI : I.Holds w) {sp : Nat} {v : Value} {l : List Bs} (hc : w.cell? ⟨sp, 0, none⟩ = some v) (h : LsAt I w v l) (hlen : l.length ≤ 100000) (hb : ∀ b ∈ l, b.length ≤ 1000000) :
    Calls Tryz.prog 19 #[.pointer (some ⟨sp, 0, none⟩)] w fun e w' => ∃ J ad c xs, e = .returned (.slice ad l.length c) ∧ Nx [] I w J [.row 1 22 (.slice ad l.length c) l.length xs] w' ∧ Reps J l xs := by
  have Hb := Lib.hid hb
  clear hb
  have hS := Nx.nil hI
  go_enter Tryz.func19, Tryz.ntmps19
  go_wp2_with (first | ((with_reducible refine gL_load ?_); refine sL_loadC rfl _ _ rfl _ _ rfl _ hc ?_) | (go_at_call 52; refine (twin_spec hS.hI h hlen Hb.out).mono ?_; rintro e w' ⟨J, ta, tc, xs, rfl, hn, hr⟩; replace hS := hS.pure1 hn; clear hn))
  go_ret
  exact ⟨J, ta, tc, xs, rfl, hS, hr⟩

theorem NumberE_spec {I : Imm} {w : World} {sp : Nat} {o : List Bs} {L : List Item} (hin : Init I L w) (h : StkAt I sp [] o L) :
    Calls Tryz.prog 163 #[.pointer (some ⟨sp, 0, none⟩)] w fun e w' => e = .returned (.tuple #[.int .i64 0, .int .i64 120]) ∧ Nx L I w I L w' := by
  have hS := hin.nx
  go_enter Tryz.func163, Tryz.ntmps163
  go_wp2_with (go_at_call 56; refine (TopE_spec hS.toInit h).mono ?_; rintro e w' ⟨rfl, hn⟩; replace hS := hS.trans hn; clear hn)
  go_ret2
  exact ⟨rfl, hS⟩

def NumberPost (L : List Item) (I : Imm) (w : World) (sp : Nat) (s o : List Bs) (b : Bs) (e : Ending) (w' : World) : Prop :=
  match decB b with
  | none => e = .returned (.tuple #[.int .i64 0, .int .i64 110]) ∧ ∃ J, Nx L I w J L w'
  | some n => e = .returned (.tuple #[.int .i64 n, .int .i64 0]) ∧ ∃ J L', Nx L I w J L' w' ∧ StkAt J sp s o L'

theorem NumberS_spec {I : Imm} {w : World} {sp : Nat} {s o : List Bs} {b : Bs} {L : List Item} (hin : Init I L w) (h : StkAt I sp (s ++ [b]) o L) (hs : s.length ≤ 100000) (hb : b.length ≤ 1000000) :
    Calls Tryz.prog 163 #[.pointer (some ⟨sp, 0, none⟩)] w (NumberPost L I w sp s o b) := by
  have hS := hin.nx
  have hlen : (s ++ [b]).length = s.length + 1 := by simp
  go_enter Tryz.func163, Tryz.ntmps163
  go_wp2_with (go_at_call 56; refine (TopS_spec hS.toInit h hs hb).mono ?_; rintro e w' ⟨ca, cc, J, rfl, hn, hrd⟩; replace h := h.mono (hn.le hS.hI); replace hS := hS.trans hn; clear hn; refine Stop.of ?_)
  refine Stop.to ?_
  cases hd : decB b with
  | none =>
    go_wp2_with (go_at_call 169; refine (Decode_spec hS.hI hrd hb).mono ?_; rintro e w' ⟨rfl, J2, hn⟩; rw [hd]; replace hS := hS.pure0 hn; clear hn)
    go_ret2
    show NumberPost _ I w sp s o b _ _
    unfold NumberPost
    rw [hd]
    exact ⟨rfl, J2, hS⟩
  | some n =>
    obtain ⟨al, ao, cl, co, xl, xo, rfl, hl, ho⟩ := h
    have Hl := Lib.hid hl
    have hone := Reps.one hl
    clear hl
    go_wp2_with (first | (go_at_call 169; refine (Decode_spec hS.hI hrd hb).mono ?_; rintro e w' ⟨rfl, J2, hn⟩; rw [hd]; have hle2 := hn.le hS.hI; replace hS := hS.pure0 hn; clear hn) | (go_at_call 141; refine (cut_spec (hS.toInit.left (L := [_, _])) rfl hone 1 (by omega) (by omega)).mono ?_; rintro e w' ⟨a2, c2, rfl, hn⟩; replace hS := Nx.call (L1 := [_, _]) hS hn; clear hn; simp only [List.set_cons_zero, List.set_cons_succ, List.cons_append, List.nil_append] at hS; replace hS := hS.drop))
    go_ret2
    show NumberPost _ I w sp s o b _ _
    unfold NumberPost
    rw [hd]
    exact ⟨rfl, J2, _, hS, StkAt.cut1 (Hl.out.mono hle2) (ho.mono hle2)⟩
end Go.Proofs.YtmlgieclkedomaaGreat

namespace Go.Proofs.YtmlgieclkedomaaGreat
open Go Go.RowKit

theorem run_clear_row {P : Program} (w : World) (t e ty : TypeId) (z : Value) (ht : P.underlying t = some (.slice e)) (hv : ∀ w, (zeroValue e).run P w = .ok z w) (hz : z.cells = #[z]) (h1 : z.oneCell' = true) (b o n c : Nat) (hn : 0 < n)
    (cur : Array Value) (te : TypeId) (hg : w.heap[b]? = some (.cells cur te (0, 0))) (hfit : o + n ≤ cur.size) :
    (Builtin.clear_ #[t] ty #[.slice (some ⟨b, o, none⟩) n c]).run P w = .ok (.tuple #[]) (w.setRow b (cur.toList.take o ++ List.replicate n z ++ cur.toList.drop (o + n)).toArray) := by
  have hzc : (Builtin.zeroCells z.cells n).toList = List.replicate n z := by
    rw [hz]
    simp [Builtin.zeroCells]
    apply List.ext_getElem
    · simp
    · intro i h1 h2
      simp [Nat.mod_one]
  have hst := run_storeCells_at P b o te (List.replicate n z) 0 cur w hg (by simpa using hfit) (by intro v hv'; rw [List.eq_of_mem_replicate hv']; exact h1)
  simp only [Nat.add_zero, List.length_replicate] at hst
  obtain ⟨m, rfl⟩ : ∃ m, n = m + 1 := ⟨n - 1, by omega⟩
  simp [Builtin.clear_, run_underlying ht, hv, hzc, hst]

section
variable {P : Program} {ops : Array Oper} {Q : Exit → Act → World → Prop} {a : Act} {w : World} {rest : List Oper} {o : Oper} {L0 : List Item} {I0 I : Imm} {w0 : World} {L : List Item}
theorem sL_appendRoom (h : Nx L0 I0 w0 I L w) (hg : Region.wanted o (yielded ops a.tmps) = true) (s x : Operand) (t : TypeId) (ho : o.op = .call { callee := .builtin .append, args := #[s, x], argTypes := #[t, t] })
    {e bytes : Nat} [hT : SliceT P t e 1 bytes] (i g m c : Nat) (cs : List Value) (hs : a.eval s = .slice (some ⟨g, 0, none⟩) m c) (hi : L[i]? = some (.blk g cs e)) (ad : Addr) (m' c' : Nat) (hx : a.eval x = .slice (some ad) m' c') (news : List Value) (hl : news.length = m')
    (hsrc : ∀ j u, news[j]? = some u → w.cell? (ad.add j) = some u) (h1 : ∀ u ∈ news, u.oneCell' = true) (hroom : m + m' ≤ c) (hfit : m + news.length ≤ cs.length)
    (k : ∀ w', Nx L0 I0 w0 I (L.set i (.blk g (cs.take m ++ news ++ cs.drop (m + news.length)) e)) w' → wpList P ops Q rest (a.put o.dst (.slice (some ⟨g, 0, none⟩) (m + m') c)) w') : wpList P ops Q (o :: rest) a w := by
  obtain ⟨hsz, inf, z, hinfo, hsize, hz, hzs⟩ := sliceInfo_parts hT.i
  have hb : w.heap[g]? = some (.cells cs.toArray e (0, 0)) := h.get hi
  have hr := fun ty => run_append_room (P := P) w t ty e inf hT.u hinfo g m c cs.toArray hb ad m' c' news (by rw [hsize]; omega) hsrc h1 hroom (by rw [hsize]; simpa using hfit)
  rw [hsize, Nat.mul_one] at hr
  have he : (execOp a.eval o).run P w = .ok (.value (.slice (some ⟨g, 0, none⟩) (m + m') c)) (w.setRow g (cs.take m ++ news ++ cs.drop (m + news.length)).toArray) := by
    simp only [execOp, ho, resolve, invoke, builtin, Sem.run_bind, Sem.run_pure, Result.andThen_ok, List.map_toArray, List.map_cons, List.map_nil, hs, hx, hr]
  refine wpL_of hg he (fun _ _ => Oper.semAt_eq _ _ _ (by simp [ho])) (fun ρ => ?_) (k _ (h.setRow hi _))
  simp [Oper.about, ho, resolve, Target.leads]
theorem sL_clear (h : Nx L0 I0 w0 I L w) (hg : Region.wanted o (yielded ops a.tmps) = true) (x : Operand) (t : TypeId) (ho : o.op = .call { callee := .builtin .clear, args := #[x], argTypes := #[t] })
    (e : TypeId) (z : Value) (ht : P.underlying t = some (.slice e)) (hv : ∀ w, (zeroValue e).run P w = .ok z w) (hz : z.cells = #[z]) (h1 : z.oneCell' = true) (i g off n c : Nat) (cs : List Value) (te : TypeId) (hx : a.eval x = .slice (some ⟨g, off, none⟩) n c) (hi : L[i]? = some (.blk g cs te)) (hn : 0 < n)
    (hfit : off + n ≤ cs.length)
    (k : ∀ w', Nx L0 I0 w0 I (L.set i (.blk g (cs.take off ++ List.replicate n z ++ cs.drop (off + n)) te)) w' → wpList P ops Q rest (a.put o.dst (.tuple #[])) w') : wpList P ops Q (o :: rest) a w := by
  have hb : w.heap[g]? = some (.cells cs.toArray te (0, 0)) := h.get hi
  have hr := fun ty => run_clear_row (P := P) w t e ty z ht hv hz h1 g off n c hn cs.toArray te hb (by simpa using hfit)
  have hbc : ∀ ats ty cs args, builtin .clear ats ty cs args = (do pure (.value (← Builtin.clear_ ats ty args))) := fun _ _ _ _ => rfl
  have he : (execOp a.eval o).run P w = .ok (.value (.tuple #[])) (w.setRow g (cs.take off ++ List.replicate n z ++ cs.drop (off + n)).toArray) := by
    simp only [execOp, ho, resolve, invoke, hbc, Sem.run_bind, Sem.run_pure, Result.andThen_ok, List.map_toArray, List.map_cons, List.map_nil, hx, hr]
  refine wpL_of hg he (fun _ _ => Oper.semAt_eq _ _ _ (by simp [ho])) (fun ρ => ?_) (k _ (h.setRow hi _))
  simp [Oper.about, ho, resolve, Target.leads]
end

section
variable {P : Program} {l : List Oper} {Q : Exit → Act → World → Prop} {S : World → Prop} {need : List Nat} {a : Act} {w : World} {fuel : Nat} {listed : Array Bool}
theorem rg_slice (i : Nat) {oi : Oper} (hi : l[i]? = some oi) (hk : (takeOK l listed i && !need.contains i) = true) (hw : Region.wanted oi (yielded l.toArray a.tmps) = true)
    (T : TypeId) (x : Operand) (lo hh mx : Option Operand) (ho : oi.op = .slice T x lo hh mx) {e sz bytes : Nat} [hT : SliceT P T e sz bytes] (ad : Option Addr) (n c : Nat) (hx : a.eval x = .slice ad n c)
    (b t m : Nat) (h1 : bnd (lo.map a.eval) 0 b) (h2 : bnd (hh.map a.eval) n t) (h3 : bnd (mx.map a.eval) c m) (h4 : b ≤ t) (h5 : t ≤ m) (h6 : m ≤ c) (h9 : mx.isSome → hh.isSome)
    (v : Value) (hv : v = .slice (adrop ad b m sz) (t - b) (m - b))
    (hQ : ∀ c a w, Q (.panic c) (a.put oi.dst v) w → Q (.panic c) a w)
    (h : wpX P l Q S need fuel (listed.setIfInBounds i true) (a.put oi.dst v) w) : wpX P l Q S need (fuel + 1) listed a w := by
  subst hv
  exact rg_free i hi hk (.inl ⟨hw, fun _ _ => ex_slice T x lo hh mx ho ad n c hx b t m h1 h2 h3 h4 h5 h6 h9⟩) hQ h
end
set_option maxRecDepth 10000 in
theorem Delete_spec {I : Imm} {w : World} {g n c : Nat} {xs : List Value} (hin : Init I [.row 1 22 (.slice (some ⟨g, 0, none⟩) n c) n xs] w) (h1 : ∀ u ∈ xs, u.oneCell' = true) (i : Nat) (hi : i < n) (hlen : n ≤ 1000000) :
    Calls Tryz.prog 168 #[.slice (some ⟨g, 0, none⟩) n c, .int .i64 i, .int .i64 ((i : Int) + 1)] w fun e w' => e = .returned (.slice (some ⟨g, 0, none⟩) (n - 1) c) ∧
      Nx [.row 1 22 (.slice (some ⟨g, 0, none⟩) n c) n xs] I w I [.row 1 22 (.slice (some ⟨g, 0, none⟩) (n - 1) c) (n - 1) (xs.eraseIdx i)] w' := by
  have hS := hin.nx
  obtain ⟨rest, hxl, hnc, hcm, hcl, hS2⟩ := hS.openRow (i := 0) rfl
  rw [Nat.mul_one] at hxl hcl
  clear hS
  have hS := hS2
  clear hS2
  simp only [List.set_cons_zero] at hS
  have hne : ¬ (i : Int) = i + 1 := by omega
  obtain ⟨m, hm⟩ : ∃ m, m = n - 1 := ⟨_, rfl⟩
  rw [← hm]
  have hmi : (m : Int) = (n : Int) - 1 := by omega
  have Hm := Lib.hid hm
  clear hm hmi
  have hcl2 := hcl
  rw [List.length_append] at hcl2
  go_enter Tryz.func168, Tryz.ntmps168
  go_wp2_with (first | ((with_reducible refine gL_slice ?_); refine sL_slice rfl _ _ _ _ _ rfl _ _ _ rfl (i) (i+1) (n) (by first | rfl | (show _ = _; omega) | (show _ = _; simp; done) | (show _ = _; simp; omega)) (by first | rfl | (show _ = _; omega) | (show _ = _; simp; done) | (show _ = _; simp; omega)) (by first | rfl | (show _ = _; omega) | (show _ = _; simp; done) | (show _ = _; simp; omega)) (by omega) (by omega) (by omega) (by simp) ?_))
  replace hS := hS.drew
  obtain ⟨ad2, had2⟩ : ∃ ad2, (⟨g, if i + 1 = c then 0 else i + 1, none⟩ : Addr) = ad2 := ⟨_, rfl⟩
  have e1 : Value.slice (some ⟨g, 0, none⟩) i c = .slice (adrop (some ⟨g, 0, none⟩) 0 c 1) (i - 0) (c - 0) := by rw [adrop_zero _ _ _ (.inr ⟨_, _, rfl⟩)]; rfl
  have e2 : Value.slice (some ad2) (n - (i + 1)) (c - (i + 1)) = .slice (adrop (some ⟨g, 0, none⟩) (i + 1) c 1) (n - (i + 1)) (c - (i + 1)) := by
    rw [← had2]
    unfold adrop
    by_cases hcc : c = i + 1
    · rw [if_pos hcc, if_pos hcc.symm]
    · rw [if_neg hcc, if_neg (Ne.symm hcc)]; simp [Addr.add_lit]
  have hcp : ∀ {W : World} {L0 : List Item} {w0 : World}, Nx L0 I w0 I [.blk g (xs ++ rest) 22] W → ∀ (j : Nat) u, (xs.drop (i + 1))[j]? = some u → W.cell? (ad2.add j) = some u := fun hS j u hu => by
    have hj := (List.getElem?_eq_some_iff.1 hu).1
    rw [List.length_drop] at hj
    rw [← had2, if_neg (by omega), Addr.add_lit]
    refine hS.blkCell 0 rfl _ ?_
    rw [List.getElem?_append_left (by omega)]
    rw [List.getElem?_drop] at hu; exact hu
  have hnl : (xs.drop (i + 1)).length = n - (i + 1) := by rw [List.length_drop, hxl]
  have hn1 : ∀ u ∈ xs.drop (i + 1), u.oneCell' = true := fun u hu => h1 u (List.mem_of_mem_drop hu)
  refine rg_start (fun _ => True) [] (by kernel_rfl) ?_
  -- P0 P1 P2 P3 P4 P5 S6 P7
  (refine rg_pure (v := ?v0u1) 0 rfl (by kernel_rfl) (fun _ _ _ h => h) rfl ?hy0u1 ?rest0u1; (case hy0u1 => (intro w; go_simp; try with_reducible rfl)); (try simp only [Act.put, List.setIfInBounds_toArray, List.set_cons_zero, List.set_cons_succ]))
  (refine rg_pure (v := ?v1u1) 1 rfl (by kernel_rfl) (fun _ _ _ h => h) rfl ?hy1u1 ?rest1u1; (case hy1u1 => (intro w; go_simp; try with_reducible rfl)); (try simp only [Act.put, List.setIfInBounds_toArray, List.set_cons_zero, List.set_cons_succ]))
  first | (refine rg_slice 2 rfl (by kernel_rfl) rfl _ _ _ _ _ rfl (some ⟨g, 0, none⟩) n c rfl 0 i c rfl rfl rfl (by omega) (by omega) (by omega) (by simp) (.slice (some ⟨g, 0, none⟩) i c) e1 (fun _ _ _ h => h) ?_; (try simp only [Act.put, List.setIfInBounds_toArray, List.set_cons_zero, List.set_cons_succ])) | (refine rg_slice 2 rfl (by kernel_rfl) rfl _ _ _ _ _ rfl (some ⟨g, 0, none⟩) n c rfl (i + 1) n c rfl rfl rfl (by omega) (by omega) (by omega) (by simp) (.slice (some ad2) (n - (i + 1)) (c - (i + 1))) e2 (fun _ _ _ h => h) ?_; (try simp only [Act.put, List.setIfInBounds_toArray, List.set_cons_zero, List.set_cons_succ])) | (refine rg_pure (v := ?v2u1) 2 rfl (by kernel_rfl) (fun _ _ _ h => h) rfl ?hy2u1 ?rest2u1; (case hy2u1 => (intro w; go_simp; try with_reducible rfl)); (try simp only [Act.put, List.setIfInBounds_toArray, List.set_cons_zero, List.set_cons_succ]))
  (refine rg_pure (v := ?v3u1) 3 rfl (by kernel_rfl) (fun _ _ _ h => h) rfl ?hy3u1 ?rest3u1; (case hy3u1 => (intro w; go_simp; try with_reducible rfl)); (try simp only [Act.put, List.setIfInBounds_toArray, List.set_cons_zero, List.set_cons_succ]))
  (refine rg_pure (v := ?v4u1) 4 rfl (by kernel_rfl) (fun _ _ _ h => h) rfl ?hy4u1 ?rest4u1; (case hy4u1 => (intro w; go_simp; try with_reducible rfl)); (try simp only [Act.put, List.setIfInBounds_toArray, List.set_cons_zero, List.set_cons_succ]))
  first | (refine rg_slice 5 rfl (by kernel_rfl) rfl _ _ _ _ _ rfl (some ⟨g, 0, none⟩) n c rfl 0 i c rfl rfl rfl (by omega) (by omega) (by omega) (by simp) (.slice (some ⟨g, 0, none⟩) i c) e1 (fun _ _ _ h => h) ?_; (try simp only [Act.put, List.setIfInBounds_toArray, List.set_cons_zero, List.set_cons_succ])) | (refine rg_slice 5 rfl (by kernel_rfl) rfl _ _ _ _ _ rfl (some ⟨g, 0, none⟩) n c rfl (i + 1) n c rfl rfl rfl (by omega) (by omega) (by omega) (by simp) (.slice (some ad2) (n - (i + 1)) (c - (i + 1))) e2 (fun _ _ _ h => h) ?_; (try simp only [Act.put, List.setIfInBounds_toArray, List.set_cons_zero, List.set_cons_succ])) | (refine rg_pure (v := ?v5u1) 5 rfl (by kernel_rfl) (fun _ _ _ h => h) rfl ?hy5u1 ?rest5u1; (case hy5u1 => (intro w; go_simp; try with_reducible rfl)); (try simp only [Act.put, List.setIfInBounds_toArray, List.set_cons_zero, List.set_cons_succ]))
  (refine rg_step 6 rfl (by kernel_rfl) (fun K' hK => ?_); go_wp2_with (first | ((with_reducible refine gL_app ?_); refine sL_appendRoom hS rfl _ _ _ rfl 0 _ _ _ _ rfl rfl _ _ _ rfl (xs.drop (i + 1)) hnl (hcp hS) hn1 (by omega) (by rw [hnl, List.length_append]; omega) ?_; clear hS; intro w' hS; simp only [List.set_cons_zero] at hS)); (try with_reducible refine rg_back ?_); refine hK.out _ _ (fun h => absurd h (by decide)) ?_; clear hK; clear K'; (try simp only [Act.put, List.setIfInBounds_toArray, List.set_cons_zero, List.set_cons_succ]))
  (refine rg_pure (v := ?v7u1) 7 rfl (by kernel_rfl) (fun _ _ _ h => h) rfl ?hy7u1 ?rest7u1; (case hy7u1 => (intro w; go_simp; try with_reducible rfl)); (try simp only [Act.put, List.setIfInBounds_toArray, List.set_cons_zero, List.set_cons_succ]))
  refine rg_done (by kernel_rfl) ?_
  have hm := Hm.out
  have hmn : i + (n - (i + 1)) = m := by omega
  have hel : (xs.eraseIdx i).length = m := by rw [List.length_eraseIdx, if_pos (by omega)]; omega
  obtain ⟨tl, htl⟩ : ∃ tl, tl = List.drop (i + (xs.drop (i + 1)).length) (xs ++ rest) := ⟨_, rfl⟩
  have htll : c ≤ m + tl.length := by rw [htl, List.length_drop, List.length_append, hnl]; omega
  have hcs : List.take i (xs ++ rest) ++ List.drop (i + 1) xs ++ tl = xs.eraseIdx i ++ tl := by
    rw [List.eraseIdx_eq_take_drop_succ, List.take_append_of_le_length (by omega)]
  rw [← htl, hcs] at hS
  rw [hmn]
  have hadr : adrop (some ⟨g, 0, none⟩) m c 1 = some ⟨g, m, none⟩ := by
    unfold adrop; rw [if_neg (by omega)]; simp [Addr.add_lit]
  have hnm : n - m = 1 := by omega
  have hmi : (m : Int) ≤ n := by omega
  have hz22 : ∀ w, (zeroValue 22).run Tryz.prog w = .ok (.slice none 0 0) w := fun w => by kernel_rfl
  have hfit : m + 1 ≤ (xs.eraseIdx i ++ tl).length := by rw [List.length_append, hel]; omega
  have Hadr := Lib.hid hadr
  have Hnm := Lib.hid hnm
  clear hcp hnl hn1 had2 e1 e2 hm hmn hcs htl hne hadr hnm
  go_wp2_with (first | (((with_reducible refine gL_slice ?_); refine sL_slice rfl _ _ _ _ _ rfl _ _ _ rfl (m) (n) (c) (by first | rfl | (show _ = _; omega) | (show _ = _; simp; done) | (show _ = _; simp; omega)) (by first | rfl | (show _ = _; omega) | (show _ = _; simp; done) | (show _ = _; simp; omega)) (by first | rfl | (show _ = _; omega) | (show _ = _; simp; done) | (show _ = _; simp; omega)) (by omega) (by omega) (by omega) (by simp) ?_); rw [Hadr.out, Hnm.out]) | (refine sL_clear hS rfl _ _ rfl 22 (.slice none 0 0) (by kernel_rfl) hz22 rfl rfl 0 _ _ _ _ _ _ rfl rfl (by decide) hfit ?_; clear hS; intro w' hS; simp only [List.set_cons_zero] at hS))
  go_ret
  refine ⟨rfl, ?_⟩
  have e : (xs.eraseIdx i ++ tl).take m ++ List.replicate 1 (Value.slice none 0 0) ++ (xs.eraseIdx i ++ tl).drop (m + 1) = xs.eraseIdx i ++ (List.replicate 1 (Value.slice none 0 0) ++ (xs.eraseIdx i ++ tl).drop (m + 1)) := by
    rw [List.take_append_of_le_length (by omega), List.take_of_length_le (by omega), List.append_assoc]
  have := hS.closeRow (i := 0) rfl 1 m c (xs.eraseIdx i) _ e (by rw [hel, Nat.mul_one]) (by have := Hm.out; omega) hcm (by rw [e]; simp only [List.length_append, List.length_replicate, List.length_drop, hel]; omega)
  exact this
end Go.Proofs.YtmlgieclkedomaaGreat

namespace Go.Proofs.YtmlgieclkedomaaGreat
open Go Go.RowKit

theorem Nx.dropL {L0 : List Item} {I0 I : Imm} {w0 w : World} {A B : List Item} (h : Nx L0 I0 w0 I (A ++ B) w) : Nx L0 I0 w0 I B w := by
  induction A with
  | nil => exact h
  | cons a A ih => exact ih h.drop
def FarPost (L : List Item) (I : Imm) (w : World) (sp : Nat) (r : Except Int (List Bs)) (o : List Bs) (e : Ending) (w' : World) : Prop :=
  match r with
  | .error c => e = .returned (.int .i64 c) ∧ ∃ J L', Nx L I w J L' w'
  | .ok s' => e = .returned (.int .i64 0) ∧ ∃ J L', Nx L I w J L' w' ∧ StkAt J sp s' o L'
theorem farS_eq (takes : Bool) (s : List Bs) (b : Bs) : farS takes (s ++ [b]) = match decB b with
    | none => .error 110
    | some n => if n < 0 ∨ (s.length : Int) ≤ n then .error 120 else .ok ((if takes then s.eraseIdx (s.length - 1 - n.toNat) else s) ++ [s.getD (s.length - 1 - n.toNat) []]) := by
  unfold farS
  simp only [List.getLast?_append, List.getLast?_singleton, Option.some_or, List.dropLast_concat]
  cases decB b <;> rfl
theorem RepsB.eraseIdx {I : Imm} {l : List Bs} {xs : List Value} (h : Reps I l xs) (i : Nat) : Reps I (l.eraseIdx i) (xs.eraseIdx i) := by
  rw [List.eraseIdx_eq_take_drop_succ, List.eraseIdx_eq_take_drop_succ]
  exact (RepsB.take h i).append (RepsB.drop h (i + 1))
set_option maxRecDepth 10000 in
theorem farS_spec {I : Imm} {w : World} {sp : Nat} {s o : List Bs} {b : Bs} {L : List Item} (hin : Init I L w) (h : StkAt I sp (s ++ [b]) o L) (hs : s.length ≤ 100000) (hb : b.length ≤ 1000000) (takes : Bool) :
    Calls Tryz.prog 144 #[.pointer (some ⟨sp, 0, none⟩), .bool takes] w (FarPost L I w sp (farS takes (s ++ [b])) o) := by
  have hS := hin.nx
  have hfar := farS_eq takes s b
  cases hd : decB b with
  | none =>
    rw [hd] at hfar
    rw [hfar]
    have hnum := NumberS_spec hin h hs hb
    unfold NumberPost at hnum
    rw [hd] at hnum
    clear hfar
    go_enter Tryz.func144, Tryz.ntmps144
    go_wp2_with (go_at_call 163; refine (hnum).mono ?_; rintro e w' ⟨rfl, J, hn⟩; replace hS := hS.trans hn; clear hn)
    go_ret
    exact ⟨rfl, J, _, hS⟩
  | some n =>
    rw [hd] at hfar
    have hnum := NumberS_spec hin h hs hb
    unfold NumberPost at hnum
    rw [hd] at hnum
    simp only at hfar hnum
    rw [hfar]
    clear hfar hd h
    by_cases h0 : n < 0
    · rw [if_pos (.inl h0)]
      go_enter Tryz.func144, Tryz.ntmps144
      go_wp2_with (first | (go_at_call 163; refine (hnum).mono ?_; rintro e w' ⟨rfl, J, L', hn, hst⟩; replace hS := hS.trans hn; clear hn))
      go_ret
      exact ⟨rfl, J, _, hS⟩
    · by_cases h1 : (s.length : Int) ≤ n
      · rw [if_pos (.inr h1)]
        go_enter Tryz.func144, Tryz.ntmps144
        go_wp2_with (first | (go_at_call 163; refine (hnum).mono ?_; rintro e w' ⟨rfl, J, L', hn, hst⟩; replace hS := hS.trans hn; clear hn; refine Stop.of ?_))
        obtain ⟨al, ao, cl, co, xl, xo, rfl, hl, ho⟩ := hst
        clear hl ho
        refine Stop.to ?_
        go_wp2_with (first | (go_at_call 72; refine (deep_spec (hS.blkCell 0 rfl 0 rfl)).mono ?_; rintro e w' ⟨rfl, rfl⟩))
        go_ret
        exact ⟨rfl, J, _, hS⟩
      · rw [if_neg (by omega)]
        obtain ⟨k, rfl⟩ := Int.eq_ofNat_of_zero_le (show 0 ≤ n by omega)
        rw [Int.toNat_natCast]
        obtain ⟨p, hp⟩ : ∃ p, p = s.length - 1 - k := ⟨_, rfl⟩
        rw [← hp]
        have hpi : (s.length : Int) - 1 - k = (p : Nat) := by omega
        have hps : p < s.length := by omega
        have hk : k < s.length := by omega
        obtain ⟨b2, hb2⟩ : ∃ b2, b2 = s.getD p [] := ⟨_, rfl⟩
        have hb2' : s[p] = b2 := by rw [hb2, List.getD_eq_getElem?_getD, List.getElem?_eq_getElem hps]; rfl
        rw [← hb2]
        have Hp := Lib.hid hp
        clear hp hb2 h0 h1
        cases takes with
        | false =>
          go_enter Tryz.func144, Tryz.ntmps144
          go_wp2_with (first | (go_at_call 163; refine (hnum).mono ?_; rintro e w' ⟨rfl, J, L', hn, hst⟩; replace hS := hS.trans hn; clear hn; refine Stop.of ?_))
          obtain ⟨al, ao, cl, co, xl, xo, rfl, hl, ho⟩ := hst
          obtain ⟨va, vc, hv, hrd⟩ := RepsB.at hl p hps
          rw [hb2'] at hv hrd
          have hv' : xl[s.length - 1 - k]? = some (.slice va b2.length vc) := by rw [← Hp.out]; exact hv
          have Hl := Lib.hid hl
          have Hv := Lib.hid hv'
          clear hl hv hv'
          refine Stop.to ?_
          go_wp2_with (first | (go_at_call 72; refine (deep_spec (hS.blkCell 0 rfl 0 rfl)).mono ?_; rintro e w' ⟨rfl, rfl⟩) | (go_at_call 76; refine (below_spec (hS.toInit.left (L := [_, _])) rfl (by omega) hk Hv.out rfl).mono ?_; rintro e w' ⟨rfl, hn⟩; replace hS := Nx.call (L1 := [_, _]) hS hn; clear hn; simp only [List.set_cons_zero, List.set_cons_succ, List.cons_append, List.nil_append] at hS) | (((with_reducible refine gL_lit ?_); first | (refine sL_lit0 hS rfl _ rfl ?_; clear hS; intro lb w' hlb hS) | (refine sL_lit1 hS rfl _ _ rfl _ (by go_simp; first | exact rfl | exact ⟨rfl, rfl⟩) rfl ?_; clear hS; intro lb w' hlb hS) | (refine sL_lit2 hS rfl _ _ _ rfl _ _ (by go_simp; first | exact rfl | exact ⟨rfl, rfl⟩) (by go_simp; first | exact rfl | exact ⟨rfl, rfl⟩) rfl rfl ?_; clear hS; intro lb w' hlb hS) | (refine sL_lit12 hS rfl _ _ rfl _ _ (by go_simp; first | exact rfl | exact ⟨rfl, rfl⟩) ?_; clear hS; intro lb w' hlb hS)); obtain ⟨K3, hS3, hle3, hat3⟩ := hS.freezeBlk hlb; clear hS; have hS := hS3; clear hS3) | (go_at_call 48; refine (put12_spec (m := 1) (hS.toInit.left (L := [_, _])) rfl (Rd.ofBlk hat3 (by decide)) rfl (by simp [Value.oneCell']) (by omega)).mono ?_; rintro e w' ⟨_, pa, pc, rfl, hn⟩; replace hS := Nx.call (L1 := [_, _]) hS hn; clear hn; simp only [List.set_cons_zero, List.set_cons_succ, List.cons_append, List.nil_append] at hS))
          go_ret
          exact ⟨rfl, K3, _, hS, pa, ao, pc, co, xl ++ [.slice va b2.length vc], xo, by simp, (Hl.out.mono hle3).append (RepsB.one (hrd.mono hle3)), ho.mono hle3⟩
        | true =>
          go_enter Tryz.func144, Tryz.ntmps144
          go_wp2_with (first | (go_at_call 163; refine (hnum).mono ?_; rintro e w' ⟨rfl, J, L', hn, hst⟩; replace hS := hS.trans hn; clear hn; refine Stop.of ?_))
          obtain ⟨al, ao, cl, co, xl, xo, rfl, hl, ho⟩ := hst
          obtain ⟨va, vc, hv, hrd⟩ := RepsB.at hl p hps
          rw [hb2'] at hv hrd
          have hv' : xl[s.length - 1 - k]? = some (.slice va b2.length vc) := by rw [← Hp.out]; exact hv
          have hxl := RepsB.len hl
          have hone := Reps.one hl
          have hel : (s.eraseIdx p).length = s.length - 1 := by rw [List.length_eraseIdx, if_pos hps]
          have hdl := RepsB.eraseIdx hl p
          have Hdl := Lib.hid hdl
          have Hel := Lib.hid hel
          have Hv := Lib.hid hv'
          have Hxl := Lib.hid hxl
          clear hl hv hv' hdl hxl hel
          refine Stop.to ?_
          go_wp2_with (first | (go_at_call 72; refine (deep_spec (hS.blkCell 0 rfl 0 rfl)).mono ?_; rintro e w' ⟨rfl, rfl⟩) | (go_at_call 76; refine (below_spec (hS.toInit.left (L := [_, _])) rfl (by omega) hk Hv.out rfl).mono ?_; rintro e w' ⟨rfl, hn⟩; replace hS := Nx.call (L1 := [_, _]) hS hn; clear hn; simp only [List.set_cons_zero, List.set_cons_succ, List.cons_append, List.nil_append] at hS) | (refine sL_load hS rfl _ _ rfl _ _ rfl 0 _ _ rfl _ rfl ?_) | (go_at_call 128; refine (Clone12_spec hS.hI (hS.srcRow (i := 1) rfl) (fun e => by subst e; exact (hS.nilCap (i := 1) rfl).2) (hS.capOf (i := 1) rfl).1 Hxl.out hone (by omega)).mono ?_; rintro e w' ⟨na, nc, rfl, hn⟩; replace hS := hS.pure1 hn; clear hn; refine Stop.of ?_))
          obtain ⟨g, rfl, hgc⟩ := hS.row_ad (i := 0) rfl (by omega)
          refine Stop.to ?_
          go_wp2_with (first | (go_at_call 168; refine (Delete_spec (hS.toInit.left (L := [_])) hone p hps (by omega)).mono ?_; rintro e w' ⟨rfl, hn⟩; replace hS := Nx.call (L1 := [_]) hS hn; clear hn; simp only [List.set_cons_zero, List.set_cons_succ, List.cons_append, List.nil_append] at hS) | ((with_reducible refine gL_store ?_); refine sL_store hS rfl _ _ _ rfl _ _ rfl 1 _ _ rfl (.slice (some ⟨g, 0, none⟩) (s.length - 1) nc) rfl rfl (by simp) ?_; clear hS; intro w' hS; simp only [List.set_cons_zero, List.set_cons_succ] at hS; refine Stop.of ?_))
          replace hS := hS.swap.dropAt 2 rfl
          simp only [List.eraseIdx_cons_succ, List.eraseIdx_cons_zero] at hS
          refine Stop.to ?_
          go_wp2_with (first | (((with_reducible refine gL_lit ?_); first | (refine sL_lit0 hS rfl _ rfl ?_; clear hS; intro lb w' hlb hS) | (refine sL_lit1 hS rfl _ _ rfl _ (by go_simp; first | exact rfl | exact ⟨rfl, rfl⟩) rfl ?_; clear hS; intro lb w' hlb hS) | (refine sL_lit2 hS rfl _ _ _ rfl _ _ (by go_simp; first | exact rfl | exact ⟨rfl, rfl⟩) (by go_simp; first | exact rfl | exact ⟨rfl, rfl⟩) rfl rfl ?_; clear hS; intro lb w' hlb hS) | (refine sL_lit12 hS rfl _ _ rfl _ _ (by go_simp; first | exact rfl | exact ⟨rfl, rfl⟩) ?_; clear hS; intro lb w' hlb hS)); obtain ⟨K3, hS3, hle3, hat3⟩ := hS.freezeBlk hlb; clear hS; have hS := hS3; clear hS3) | (go_at_call 48; refine (put12_spec (m := 1) (hS.toInit.left (L := [_, _])) rfl (Rd.ofBlk hat3 (by decide)) rfl (by simp [Value.oneCell']) (by omega)).mono ?_; rintro e w' ⟨_, pa, pc, rfl, hn⟩; replace hS := Nx.call (L1 := [_, _]) hS hn; clear hn; simp only [List.set_cons_zero, List.set_cons_succ, List.cons_append, List.nil_append] at hS))
          go_ret
          refine ⟨rfl, K3, _, hS, pa, ao, pc, co, xl.eraseIdx p ++ [.slice va b2.length vc], xo, ?_, (Hdl.out.mono hle3).append (RepsB.one (hrd.mono hle3)), ho.mono hle3⟩
          simp [stkL, Hel.out]
end Go.Proofs.YtmlgieclkedomaaGreat

namespace Go.Proofs.YtmlgieclkedomaaGreat
open Go Go.RowKit
theorem Nx.freezeRowS {L0 : List Item} {I0 I : Imm} {w0 w : World} {L : List Item} {sz m : Nat} {e : TypeId} {v : Value} {xs : List Value} (h : Nx L0 I0 w0 I (.row sz e v m xs :: L) w) (hs : ∀ b ∈ blocks L0, b ∈ blocks L) :
    ∃ J, Nx L0 I0 w0 J L w ∧ I.Le J ∧ Rd J v m xs :=
  h.freezeRow (fun g hg => (h.own g (mem_blocks.2 ⟨_, List.mem_cons_self, hg⟩)).resolve_left (fun hm => by
    have hnd := h.nodup
    have hb2 : blocks (.row sz e v m xs :: L) = g :: blocks L := by simp [blocks, Item.block, hg]
    rw [hb2, List.nodup_cons] at hnd
    exact hnd.1 (hs g hm)))
theorem RdB.at {I : Imm} {ad : Option Addr} {n c : Nat} {l : Bs} (h : RdB I (.slice ad n c) l) (h0 : 0 < l.length) : l.length = n ∧ n ≤ c ∧ ∃ g j, ad = some ⟨g, j, none⟩ ∧ I.At g j (bvs l) := by
  obtain ⟨ad0, c0, e, k1, k2, k3⟩ := h.ex
  simp only [Value.slice.injEq] at e
  obtain ⟨rfl, rfl, rfl⟩ := e
  rcases k3 with ⟨_, h, _⟩ | ⟨g, j, e, hat⟩
  · omega
  · exact ⟨rfl, k1, g, j, e, hat⟩
theorem Imm.At.cellA {I : Imm} {g j : Nat} {vs : List Value} (h : I.At g j vs) {w : World} (hI : I.Holds w) : ∀ i u, vs[i]? = some u → w.cell? ⟨g, j + i, none⟩ = some u := fun i u hu => h.cell hI i hu

end Go.Proofs.YtmlgieclkedomaaGreat

namespace Go.Proofs.YtmlgieclkedomaaGreat
open Go Go.RowKit

def DoPost (L : List Item) (I : Imm) (w : World) (sp : Nat) (r : Except Int (List Bs × List Bs)) (e : Ending) (w' : World) : Prop :=
  match r with
  | .error c => e = .returned (.int .i64 c) ∧ ∃ J L', Nx L I w J L' w'
  | .ok (s', o') => e = .returned (.int .i64 0) ∧ ∃ J L', Nx L I w J L' w' ∧ StkAt J sp s' o' L'
theorem stkL_sub {sp : Nat} {al ao : Option Addr} {nl cl no co : Nat} {xl xo : List Value} {cs : List Value} {T : TypeId} {c1 c2 n1 n2 : Nat} {y1 y2 : List Value} {T1 T2 : TypeId} :
    ∀ b ∈ blocks (stkL sp al ao nl cl no co xl xo), b ∈ blocks [.blk sp cs T, .row 1 T1 (.slice al n1 c1) n1 y1, .row 1 T2 (.slice ao n2 c2) n2 y2] := by
  cases al <;> cases ao <;> simp [blocks, Item.block, Value.ownBlock]

set_option maxRecDepth 10000 in
theorem do107_spec {I : Imm} {w : World} {sp : Nat} {s o : List Bs} {L : List Item} (hin : Init I L w) (h : StkAt I sp s o L) (hs : s.length + o.length ≤ 100000) (hk : 1 ≤ s.length) :
    Calls Tryz.prog 129 #[.pointer (some ⟨sp, 0, none⟩), .int .u8 107] w (DoPost L I w sp (.ok (butN s 1, o ++ lastN s 1))) := by
  obtain ⟨al, ao, cl, co, xl, xo, rfl, hl, ho⟩ := h
  have hS := hin.nx
  have hone := Reps.one hl
  have hxl := RepsB.len hl
  have Hl := Lib.hid hl
  have Hxl := Lib.hid hxl
  clear hl hxl
  have hno : Calls Tryz.prog 142 #[.int .u8 107] w fun e w' => e = .returned (.tuple #[.slice none 0 0, .bool false]) ∧ w = w' := orderNo_spec (c := 107) rfl
  go_enter Tryz.func129, Tryz.ntmps129
  go_wp2_with (first | (go_at_call 142; refine (hno).mono ?_; rintro e w' ⟨rfl, rfl⟩))
  replace hS := hS.drew
  refine rg_start (fun _ => True) [] (by kernel_rfl) ?_
  -- P0 P1 P2 P3 P4 P5 S6 S7
  (refine rg_pure (v := ?v0u1) 0 rfl (by kernel_rfl) (fun _ _ _ h => h) rfl ?hy0u1 ?rest0u1; (case hy0u1 => (intro w; go_simp; try with_reducible rfl)); (try simp only [Act.put, List.setIfInBounds_toArray, List.set_cons_zero, List.set_cons_succ]))
  (refine rg_pure (v := ?v1u1) 1 rfl (by kernel_rfl) (fun _ _ _ h => h) rfl ?hy1u1 ?rest1u1; (case hy1u1 => (intro w; go_simp; try with_reducible rfl)); (try simp only [Act.put, List.setIfInBounds_toArray, List.set_cons_zero, List.set_cons_succ]))
  (refine rg_pure (v := ?v2u1) 2 rfl (by kernel_rfl) (fun _ _ _ h => h) rfl ?hy2u1 ?rest2u1; (case hy2u1 => (intro w; go_simp; try with_reducible rfl)); (try simp only [Act.put, List.setIfInBounds_toArray, List.set_cons_zero, List.set_cons_succ]))
  (refine rg_pure (v := ?v3u1) 3 rfl (by kernel_rfl) (fun _ _ _ h => h) rfl ?hy3u1 ?rest3u1; (case hy3u1 => (intro w; go_simp; try with_reducible rfl)); (try simp only [Act.put, List.setIfInBounds_toArray, List.set_cons_zero, List.set_cons_succ]))
  (refine rg_pure (v := ?v4u1) 4 rfl (by kernel_rfl) (fun _ _ _ h => h) rfl ?hy4u1 ?rest4u1; (case hy4u1 => (intro w; go_simp; try with_reducible rfl)); (try simp only [Act.put, List.setIfInBounds_toArray, List.set_cons_zero, List.set_cons_succ]))
  (refine rg_pure (v := ?v5u1) 5 rfl (by kernel_rfl) (fun _ _ _ h => h) rfl ?hy5u1 ?rest5u1; (case hy5u1 => (intro w; go_simp; try with_reducible rfl)); (try simp only [Act.put, List.setIfInBounds_toArray, List.set_cons_zero, List.set_cons_succ]))
  (refine rg_step 6 rfl (by kernel_rfl) (fun K' hK => ?_); go_wp2_with (first | (go_at_call 141; refine (cut_spec (hS.toInit.left (L := [_, _])) rfl hone 1 hk (by omega)).mono ?_; rintro e w' ⟨a2, c2, rfl, hn⟩; replace hS := Nx.call (L1 := [_, _]) hS hn; clear hn; simp only [List.set_cons_zero, List.set_cons_succ, List.cons_append, List.nil_append] at hS; obtain ⟨K, hS2, hleK, hrdc⟩ := hS.freezeRowS stkL_sub; clear hS; have hS := hS2.perm (List.Perm.cons _ (List.Perm.swap _ _ _)); clear hS2) | (go_at_call 48; refine (put12_spec (m := 1) (hS.toInit.left (L := [_, _])) rfl hrdc (by rw [List.length_drop, Hxl.out]; omega) (fun u hu => hone u (List.mem_of_mem_drop hu)) (by omega)).mono ?_; rintro e w' ⟨_, pa, pc, rfl, hn⟩; replace hS := Nx.call (L1 := [_, _]) hS hn; clear hn; simp only [List.set_cons_zero, List.set_cons_succ, List.cons_append, List.nil_append] at hS)); (try with_reducible refine rg_back ?_); refine hK.out _ _ (fun h => absurd h (by decide)) ?_; clear hK; clear K'; (try simp only [Act.put, List.setIfInBounds_toArray, List.set_cons_zero, List.set_cons_succ]))
  (refine rg_step 7 rfl (by kernel_rfl) (fun K' hK => ?_); go_wp2_with (first | (go_at_call 141; refine (cut_spec (hS.toInit.left (L := [_, _])) rfl hone 1 hk (by omega)).mono ?_; rintro e w' ⟨a2, c2, rfl, hn⟩; replace hS := Nx.call (L1 := [_, _]) hS hn; clear hn; simp only [List.set_cons_zero, List.set_cons_succ, List.cons_append, List.nil_append] at hS; obtain ⟨K, hS2, hleK, hrdc⟩ := hS.freezeRowS stkL_sub; clear hS; have hS := hS2.perm (List.Perm.cons _ (List.Perm.swap _ _ _)); clear hS2) | (go_at_call 48; refine (put12_spec (m := 1) (hS.toInit.left (L := [_, _])) rfl hrdc (by rw [List.length_drop, Hxl.out]; omega) (fun u hu => hone u (List.mem_of_mem_drop hu)) (by omega)).mono ?_; rintro e w' ⟨_, pa, pc, rfl, hn⟩; replace hS := Nx.call (L1 := [_, _]) hS hn; clear hn; simp only [List.set_cons_zero, List.set_cons_succ, List.cons_append, List.nil_append] at hS)); (try with_reducible refine rg_back ?_); refine hK.out _ _ (fun h => absurd h (by decide)) ?_; clear hK; clear K'; (try simp only [Act.put, List.setIfInBounds_toArray, List.set_cons_zero, List.set_cons_succ]))
  refine rg_done (by kernel_rfl) ?_
  go_wp2_with fail
  go_ret
  refine ⟨rfl, K, _, hS.perm (List.Perm.cons _ (List.Perm.swap _ _ _)), al, pa, s.length - 1, pc, xl.take (s.length - 1), xo ++ xl.drop (s.length - 1), ?_, (RepsB.take Hl.out _).mono hleK, (ho.mono hleK).append ((RepsB.drop Hl.out _).mono hleK)⟩
  have e1 : (butN s 1).length = s.length - 1 := by unfold butN; rw [List.length_take]; omega
  have e2 : (o ++ lastN s 1).length = o.length + 1 := by unfold lastN; rw [List.length_append, List.length_drop]; omega
  rw [e1, e2]
theorem stkL_sub2 {sp : Nat} {al ao : Option Addr} {nl cl no co : Nat} {xl xo : List Value} {cs : List Value} {T : TypeId} {c1 c2 n1 n2 : Nat} {y1 y2 : List Value} {T1 T2 : TypeId} :
    ∀ b ∈ blocks (stkL sp al ao nl cl no co xl xo), b ∈ blocks [.blk sp cs T, .row 1 T2 (.slice ao n2 c2) n2 y2, .row 1 T1 (.slice al n1 c1) n1 y1] := by
  cases al <;> cases ao <;> simp [blocks, Item.block, Value.ownBlock]
theorem do108E_spec {I : Imm} {w : World} {sp : Nat} {s : List Bs} {L : List Item} (hin : Init I L w) (h : StkAt I sp s [] L) :
    Calls Tryz.prog 129 #[.pointer (some ⟨sp, 0, none⟩), .int .u8 108] w (DoPost L I w sp (.error 120)) := by
  obtain ⟨al, ao, cl, co, xl, xo, rfl, hl, ho⟩ := h
  have hS := hin.nx
  have hno : Calls Tryz.prog 142 #[.int .u8 108] w fun e w' => e = .returned (.tuple #[.slice none 0 0, .bool false]) ∧ w = w' := orderNo_spec (c := 108) rfl
  go_enter Tryz.func129, Tryz.ntmps129
  go_wp2_with (first | (go_at_call 142; refine (hno).mono ?_; rintro e w' ⟨rfl, rfl⟩) | (go_at_call 72; refine (deep_spec (hS.blkCell 0 rfl 1 rfl)).mono ?_; rintro e w' ⟨rfl, rfl⟩))
  go_ret
  exact ⟨rfl, I, _, hS⟩
set_option maxRecDepth 10000 in
theorem do108_spec {I : Imm} {w : World} {sp : Nat} {s o : List Bs} {L : List Item} (hin : Init I L w) (h : StkAt I sp s o L) (hs : s.length + o.length ≤ 100000) (hk : 1 ≤ o.length) :
    Calls Tryz.prog 129 #[.pointer (some ⟨sp, 0, none⟩), .int .u8 108] w (DoPost L I w sp (.ok (s ++ lastN o 1, butN o 1))) := by
  obtain ⟨al, ao, cl, co, xl, xo, rfl, hl, ho⟩ := h
  have hS := hin.nx
  have hone := Reps.one ho
  have hxl := RepsB.len ho
  have Hl := Lib.hid ho
  have Hxl := Lib.hid hxl
  clear ho hxl
  have hno : Calls Tryz.prog 142 #[.int .u8 108] w fun e w' => e = .returned (.tuple #[.slice none 0 0, .bool false]) ∧ w = w' := orderNo_spec (c := 108) rfl
  have hne : ¬ (o.length : Int) = 0 := by omega
  go_enter Tryz.func129, Tryz.ntmps129
  go_wp2_with (first | (go_at_call 142; refine (hno).mono ?_; rintro e w' ⟨rfl, rfl⟩) | (go_at_call 72; refine (deep_spec (hS.blkCell 0 rfl 1 rfl)).mono ?_; rintro e w' ⟨rfl, rfl⟩))
  replace hS := hS.drew.perm (List.Perm.cons _ (List.Perm.swap _ _ _))
  refine rg_start (fun _ => True) [] (by kernel_rfl) ?_
  -- P0 P1 P2 P3 P4 P5 S6 S7
  (refine rg_pure (v := ?v0u2) 0 rfl (by kernel_rfl) (fun _ _ _ h => h) rfl ?hy0u2 ?rest0u2; (case hy0u2 => (intro w; go_simp; try with_reducible rfl)); (try simp only [Act.put, List.setIfInBounds_toArray, List.set_cons_zero, List.set_cons_succ]))
  (refine rg_pure (v := ?v1u2) 1 rfl (by kernel_rfl) (fun _ _ _ h => h) rfl ?hy1u2 ?rest1u2; (case hy1u2 => (intro w; go_simp; try with_reducible rfl)); (try simp only [Act.put, List.setIfInBounds_toArray, List.set_cons_zero, List.set_cons_succ]))
  (refine rg_pure (v := ?v2u2) 2 rfl (by kernel_rfl) (fun _ _ _ h => h) rfl ?hy2u2 ?rest2u2; (case hy2u2 => (intro w; go_simp; try with_reducible rfl)); (try simp only [Act.put, List.setIfInBounds_toArray, List.set_cons_zero, List.set_cons_succ]))
  (refine rg_pure (v := ?v3u2) 3 rfl (by kernel_rfl) (fun _ _ _ h => h) rfl ?hy3u2 ?rest3u2; (case hy3u2 => (intro w; go_simp; try with_reducible rfl)); (try simp only [Act.put, List.setIfInBounds_toArray, List.set_cons_zero, List.set_cons_succ]))
  (refine rg_pure (v := ?v4u2) 4 rfl (by kernel_rfl) (fun _ _ _ h => h) rfl ?hy4u2 ?rest4u2; (case hy4u2 => (intro w; go_simp; try with_reducible rfl)); (try simp only [Act.put, List.setIfInBounds_toArray, List.set_cons_zero, List.set_cons_succ]))
  (refine rg_pure (v := ?v5u2) 5 rfl (by kernel_rfl) (fun _ _ _ h => h) rfl ?hy5u2 ?rest5u2; (case hy5u2 => (intro w; go_simp; try with_reducible rfl)); (try simp only [Act.put, List.setIfInBounds_toArray, List.set_cons_zero, List.set_cons_succ]))
  (refine rg_step 6 rfl (by kernel_rfl) (fun K' hK => ?_); go_wp2_with (first | (go_at_call 141; refine (cut_spec (hS.toInit.left (L := [_, _])) rfl hone 1 hk (by omega)).mono ?_; rintro e w' ⟨a2, c2, rfl, hn⟩; replace hS := Nx.call (L1 := [_, _]) hS hn; clear hn; simp only [List.set_cons_zero, List.set_cons_succ, List.cons_append, List.nil_append] at hS; obtain ⟨K, hS2, hleK, hrdc⟩ := hS.freezeRowS stkL_sub2; clear hS; have hS := hS2.perm (List.Perm.cons _ (List.Perm.swap _ _ _)); clear hS2) | (go_at_call 48; refine (put12_spec (m := 1) (hS.toInit.left (L := [_, _])) rfl hrdc (by rw [List.length_drop, Hxl.out]; omega) (fun u hu => hone u (List.mem_of_mem_drop hu)) (by omega)).mono ?_; rintro e w' ⟨_, pa, pc, rfl, hn⟩; replace hS := Nx.call (L1 := [_, _]) hS hn; clear hn; simp only [List.set_cons_zero, List.set_cons_succ, List.cons_append, List.nil_append] at hS)); (try with_reducible refine rg_back ?_); refine hK.out _ _ (fun h => absurd h (by decide)) ?_; clear hK; clear K'; (try simp only [Act.put, List.setIfInBounds_toArray, List.set_cons_zero, List.set_cons_succ]))
  (refine rg_step 7 rfl (by kernel_rfl) (fun K' hK => ?_); go_wp2_with (first | (go_at_call 141; refine (cut_spec (hS.toInit.left (L := [_, _])) rfl hone 1 hk (by omega)).mono ?_; rintro e w' ⟨a2, c2, rfl, hn⟩; replace hS := Nx.call (L1 := [_, _]) hS hn; clear hn; simp only [List.set_cons_zero, List.set_cons_succ, List.cons_append, List.nil_append] at hS; obtain ⟨K, hS2, hleK, hrdc⟩ := hS.freezeRowS stkL_sub2; clear hS; have hS := hS2.perm (List.Perm.cons _ (List.Perm.swap _ _ _)); clear hS2) | (go_at_call 48; refine (put12_spec (m := 1) (hS.toInit.left (L := [_, _])) rfl hrdc (by rw [List.length_drop, Hxl.out]; omega) (fun u hu => hone u (List.mem_of_mem_drop hu)) (by omega)).mono ?_; rintro e w' ⟨_, pa, pc, rfl, hn⟩; replace hS := Nx.call (L1 := [_, _]) hS hn; clear hn; simp only [List.set_cons_zero, List.set_cons_succ, List.cons_append, List.nil_append] at hS)); (try with_reducible refine rg_back ?_); refine hK.out _ _ (fun h => absurd h (by decide)) ?_; clear hK; clear K'; (try simp only [Act.put, List.setIfInBounds_toArray, List.set_cons_zero, List.set_cons_succ]))
  refine rg_done (by kernel_rfl) ?_
  go_wp2_with fail
  go_ret
  refine ⟨rfl, K, _, hS, pa, ao, pc, o.length - 1, xl ++ xo.drop (o.length - 1), xo.take (o.length - 1), ?_, (hl.mono hleK).append ((RepsB.drop Hl.out _).mono hleK), (RepsB.take Hl.out _).mono hleK⟩
  have e1 : (butN o 1).length = o.length - 1 := by unfold butN; rw [List.length_take]; omega
  have e2 : (s ++ lastN o 1).length = s.length + 1 := by unfold lastN; rw [List.length_append, List.length_drop]; omega
  rw [e1, e2]

set_option maxRecDepth 10000 in
theorem do115_spec {I : Imm} {w : World} {sp : Nat} {s o : List Bs} {b : Bs} {L : List Item} (hin : Init I L w) (h : StkAt I sp (s ++ [b]) o L) (hs : s.length + o.length ≤ 90000) (hb : b.length ≤ 1000000) :
    Calls Tryz.prog 129 #[.pointer (some ⟨sp, 0, none⟩), .int .u8 115] w (DoPost L I w sp (.ok (if trueB b then s ++ [b] ++ [b] else s ++ [b], o))) := by
  obtain ⟨al, ao, cl, co, xl, xo, rfl, hl, ho⟩ := h
  have hS := hin.nx
  obtain ⟨va, vc, hv, hrd⟩ := RepsB.last hl
  obtain ⟨q, hq⟩ : ∃ q, q = (s ++ [b]).length := ⟨_, rfl⟩
  have hq1 : 1 ≤ q ∧ q ≤ 90001 := by rw [hq]; simp; omega
  obtain ⟨hq2, hq3⟩ := hq1
  rw [← hq] at hS hv ⊢
  have Hl := Lib.hid hl
  have Hv := Lib.hid hv
  have Hq := Lib.hid hq
  clear hl hv hq
  have hno : Calls Tryz.prog 142 #[.int .u8 115] w fun e w' => e = .returned (.tuple #[.slice none 0 0, .bool false]) ∧ w = w' := orderNo_spec (c := 115) rfl
  cases ht : trueB b with
  | false =>
    go_enter Tryz.func129, Tryz.ntmps129
    go_wp2_with (first | (go_at_call 142; refine (hno).mono ?_; rintro e w' ⟨rfl, rfl⟩) | (go_at_call 76; refine (below_spec (k := 0) (hS.toInit.left (L := [_, _])) rfl (by omega) (by omega) Hv.out rfl).mono ?_; rintro e w' ⟨rfl, hn⟩; replace hS := Nx.call (L1 := [_, _]) hS hn; clear hn; simp only [List.set_cons_zero, List.set_cons_succ, List.cons_append, List.nil_append] at hS) | (go_at_call 16; refine (True_spec hS.hI hrd hb).mono ?_; rintro e w' ⟨rfl, rfl⟩; rw [ht]))
    go_ret
    exact ⟨rfl, I, _, hS, al, ao, cl, co, xl, xo, by rw [Hq.out], Hl.out, ho⟩
  | true =>
    go_enter Tryz.func129, Tryz.ntmps129
    go_wp2_with (first | (go_at_call 142; refine (hno).mono ?_; rintro e w' ⟨rfl, rfl⟩) | (go_at_call 76; refine (below_spec (k := 0) (hS.toInit.left (L := [_, _])) rfl (by omega) (by omega) Hv.out rfl).mono ?_; rintro e w' ⟨rfl, hn⟩; replace hS := Nx.call (L1 := [_, _]) hS hn; clear hn; simp only [List.set_cons_zero, List.set_cons_succ, List.cons_append, List.nil_append] at hS) | (go_at_call 16; refine (True_spec hS.hI hrd hb).mono ?_; rintro e w' ⟨rfl, rfl⟩; rw [ht]))
    replace hS := hS.drew
    refine rg_start (fun _ => True) [] (by kernel_rfl) ?_
    -- P0 P1 P2 P3 P4 P5 S6 S7 S8
    (refine rg_pure (v := ?v0u3) 0 rfl (by kernel_rfl) (fun _ _ _ h => h) rfl ?hy0u3 ?rest0u3; (case hy0u3 => (intro w; go_simp; try with_reducible rfl)); (try simp only [Act.put, List.setIfInBounds_toArray, List.set_cons_zero, List.set_cons_succ]))
    (refine rg_pure (v := ?v1u3) 1 rfl (by kernel_rfl) (fun _ _ _ h => h) rfl ?hy1u3 ?rest1u3; (case hy1u3 => (intro w; go_simp; try with_reducible rfl)); (try simp only [Act.put, List.setIfInBounds_toArray, List.set_cons_zero, List.set_cons_succ]))
    (refine rg_pure (v := ?v2u3) 2 rfl (by kernel_rfl) (fun _ _ _ h => h) rfl ?hy2u3 ?rest2u3; (case hy2u3 => (intro w; go_simp; try with_reducible rfl)); (try simp only [Act.put, List.setIfInBounds_toArray, List.set_cons_zero, List.set_cons_succ]))
    (refine rg_pure (v := ?v3u3) 3 rfl (by kernel_rfl) (fun _ _ _ h => h) rfl ?hy3u3 ?rest3u3; (case hy3u3 => (intro w; go_simp; try with_reducible rfl)); (try simp only [Act.put, List.setIfInBounds_toArray, List.set_cons_zero, List.set_cons_succ]))
    (refine rg_pure (v := ?v4u3) 4 rfl (by kernel_rfl) (fun _ _ _ h => h) rfl ?hy4u3 ?rest4u3; (case hy4u3 => (intro w; go_simp; try with_reducible rfl)); (try simp only [Act.put, List.setIfInBounds_toArray, List.set_cons_zero, List.set_cons_succ]))
    (refine rg_pure (v := ?v5u3) 5 rfl (by kernel_rfl) (fun _ _ _ h => h) rfl ?hy5u3 ?rest5u3; (case hy5u3 => (intro w; go_simp; try with_reducible rfl)); (try simp only [Act.put, List.setIfInBounds_toArray, List.set_cons_zero, List.set_cons_succ]))
    (refine rg_step 6 rfl (by kernel_rfl) (fun K' hK => ?_); go_wp2_with (first | (go_at_call 76; refine (below_spec (k := 0) (hS.toInit.left (L := [_, _])) rfl (by omega) (by omega) Hv.out rfl).mono ?_; rintro e w' ⟨rfl, hn⟩; replace hS := Nx.call (L1 := [_, _]) hS hn; clear hn; simp only [List.set_cons_zero, List.set_cons_succ, List.cons_append, List.nil_append] at hS) | (((with_reducible refine gL_lit ?_); first | (refine sL_lit0 hS rfl _ rfl ?_; clear hS; intro lb w' hlb hS) | (refine sL_lit1 hS rfl _ _ rfl _ (by go_simp; first | exact rfl | exact ⟨rfl, rfl⟩) rfl ?_; clear hS; intro lb w' hlb hS) | (refine sL_lit2 hS rfl _ _ _ rfl _ _ (by go_simp; first | exact rfl | exact ⟨rfl, rfl⟩) (by go_simp; first | exact rfl | exact ⟨rfl, rfl⟩) rfl rfl ?_; clear hS; intro lb w' hlb hS) | (refine sL_lit12 hS rfl _ _ rfl _ _ (by go_simp; first | exact rfl | exact ⟨rfl, rfl⟩) ?_; clear hS; intro lb w' hlb hS)); obtain ⟨K3, hS3, hle3, hat3⟩ := hS.freezeBlk hlb; clear hS; have hS := hS3; clear hS3) | (go_at_call 48; refine (put12_spec (m := 1) (hS.toInit.left (L := [_, _])) rfl (Rd.ofBlk hat3 (by decide)) rfl (by simp [Value.oneCell']) (by omega)).mono ?_; rintro e w' ⟨_, pa, pc, rfl, hn⟩; replace hS := Nx.call (L1 := [_, _]) hS hn; clear hn; simp only [List.set_cons_zero, List.set_cons_succ, List.cons_append, List.nil_append] at hS)); (try with_reducible refine rg_back ?_); refine hK.out _ _ (fun h => absurd h (by decide)) ?_; clear hK; clear K'; (try simp only [Act.put, List.setIfInBounds_toArray, List.set_cons_zero, List.set_cons_succ]))
    (refine rg_step 7 rfl (by kernel_rfl) (fun K' hK => ?_); go_wp2_with (first | (go_at_call 76; refine (below_spec (k := 0) (hS.toInit.left (L := [_, _])) rfl (by omega) (by omega) Hv.out rfl).mono ?_; rintro e w' ⟨rfl, hn⟩; replace hS := Nx.call (L1 := [_, _]) hS hn; clear hn; simp only [List.set_cons_zero, List.set_cons_succ, List.cons_append, List.nil_append] at hS) | (((with_reducible refine gL_lit ?_); first | (refine sL_lit0 hS rfl _ rfl ?_; clear hS; intro lb w' hlb hS) | (refine sL_lit1 hS rfl _ _ rfl _ (by go_simp; first | exact rfl | exact ⟨rfl, rfl⟩) rfl ?_; clear hS; intro lb w' hlb hS) | (refine sL_lit2 hS rfl _ _ _ rfl _ _ (by go_simp; first | exact rfl | exact ⟨rfl, rfl⟩) (by go_simp; first | exact rfl | exact ⟨rfl, rfl⟩) rfl rfl ?_; clear hS; intro lb w' hlb hS) | (refine sL_lit12 hS rfl _ _ rfl _ _ (by go_simp; first | exact rfl | exact ⟨rfl, rfl⟩) ?_; clear hS; intro lb w' hlb hS)); obtain ⟨K3, hS3, hle3, hat3⟩ := hS.freezeBlk hlb; clear hS; have hS := hS3; clear hS3) | (go_at_call 48; refine (put12_spec (m := 1) (hS.toInit.left (L := [_, _])) rfl (Rd.ofBlk hat3 (by decide)) rfl (by simp [Value.oneCell']) (by omega)).mono ?_; rintro e w' ⟨_, pa, pc, rfl, hn⟩; replace hS := Nx.call (L1 := [_, _]) hS hn; clear hn; simp only [List.set_cons_zero, List.set_cons_succ, List.cons_append, List.nil_append] at hS)); (try with_reducible refine rg_back ?_); refine hK.out _ _ (fun h => absurd h (by decide)) ?_; clear hK; clear K'; (try simp only [Act.put, List.setIfInBounds_toArray, List.set_cons_zero, List.set_cons_succ]))
    (refine rg_step 8 rfl (by kernel_rfl) (fun K' hK => ?_); go_wp2_with (first | (go_at_call 76; refine (below_spec (k := 0) (hS.toInit.left (L := [_, _])) rfl (by omega) (by omega) Hv.out rfl).mono ?_; rintro e w' ⟨rfl, hn⟩; replace hS := Nx.call (L1 := [_, _]) hS hn; clear hn; simp only [List.set_cons_zero, List.set_cons_succ, List.cons_append, List.nil_append] at hS) | (((with_reducible refine gL_lit ?_); first | (refine sL_lit0 hS rfl _ rfl ?_; clear hS; intro lb w' hlb hS) | (refine sL_lit1 hS rfl _ _ rfl _ (by go_simp; first | exact rfl | exact ⟨rfl, rfl⟩) rfl ?_; clear hS; intro lb w' hlb hS) | (refine sL_lit2 hS rfl _ _ _ rfl _ _ (by go_simp; first | exact rfl | exact ⟨rfl, rfl⟩) (by go_simp; first | exact rfl | exact ⟨rfl, rfl⟩) rfl rfl ?_; clear hS; intro lb w' hlb hS) | (refine sL_lit12 hS rfl _ _ rfl _ _ (by go_simp; first | exact rfl | exact ⟨rfl, rfl⟩) ?_; clear hS; intro lb w' hlb hS)); obtain ⟨K3, hS3, hle3, hat3⟩ := hS.freezeBlk hlb; clear hS; have hS := hS3; clear hS3) | (go_at_call 48; refine (put12_spec (m := 1) (hS.toInit.left (L := [_, _])) rfl (Rd.ofBlk hat3 (by decide)) rfl (by simp [Value.oneCell']) (by omega)).mono ?_; rintro e w' ⟨_, pa, pc, rfl, hn⟩; replace hS := Nx.call (L1 := [_, _]) hS hn; clear hn; simp only [List.set_cons_zero, List.set_cons_succ, List.cons_append, List.nil_append] at hS)); (try with_reducible refine rg_back ?_); refine hK.out _ _ (fun h => absurd h (by decide)) ?_; clear hK; clear K'; (try simp only [Act.put, List.setIfInBounds_toArray, List.set_cons_zero, List.set_cons_succ]))
    refine rg_done (by kernel_rfl) ?_
    go_wp2_with fail
    go_ret
    have hap : s ++ [b, b] = (s ++ [b]) ++ [b] := by simp
    have hr : Reps K3 ((s ++ [b]) ++ [b]) (xl ++ [.slice va b.length vc]) := (Hl.out.mono hle3).append (RepsB.one (hrd.mono hle3))
    have hln : ((s ++ [b]) ++ [b]).length = q + 1 := by rw [List.length_append, ← Hq.out]; rfl
    show DoPost _ _ _ _ _ _ _
    refine ⟨rfl, K3, _, hS, pa, ao, pc, co, xl ++ [.slice va b.length vc], xo, ?_, ?_, ho.mono hle3⟩
    · first | (rw [hap, hln]) | (rw [if_pos rfl, hln])
    · first | (rw [hap]; exact hr) | exact hr

set_option maxRecDepth 10000 in
theorem do116_spec {I : Imm} {w : World} {sp : Nat} {s o : List Bs} {L : List Item} (hin : Init I L w) (h : StkAt I sp s o L) (hs : s.length + o.length ≤ 100000) :
    Calls Tryz.prog 129 #[.pointer (some ⟨sp, 0, none⟩), .int .u8 116] w (DoPost L I w sp (.ok (s ++ [numB s.length], o))) := by
  have h2 := h
  obtain ⟨al, ao, cl, co, xl, xo, rfl, hl, ho⟩ := h
  clear hl ho
  have hS := hin.nx
  have hno : Calls Tryz.prog 142 #[.int .u8 116] w fun e w' => e = .returned (.tuple #[.slice none 0 0, .bool false]) ∧ w = w' := orderNo_spec (c := 116) rfl
  go_enter Tryz.func129, Tryz.ntmps129
  go_wp2_with (first | (go_at_call 142; refine (hno).mono ?_; rintro e w' ⟨rfl, rfl⟩) | (go_at_call 72; refine (deep_spec (hS.blkCell 0 rfl 0 rfl)).mono ?_; rintro e w' ⟨rfl, rfl⟩) | (go_at_call 143; refine (number12_spec hS.toInit h2 hs (by omega) (by omega)).mono ?_; rintro e w' ⟨_, J, L', rfl, hn, hst⟩; replace hS := hS.trans hn; clear hn))
  go_ret
  exact ⟨rfl, J, L', hS, hst⟩
set_option maxRecDepth 10000 in
theorem do130_spec {I : Imm} {w : World} {sp : Nat} {s o : List Bs} {b : Bs} {L : List Item} (hin : Init I L w) (h : StkAt I sp (s ++ [b]) o L) (hs : s.length + o.length ≤ 90000) (hb : b.length ≤ 1000000) :
    Calls Tryz.prog 129 #[.pointer (some ⟨sp, 0, none⟩), .int .u8 130] w (DoPost L I w sp (.ok (s ++ [b] ++ [numB b.length], o))) := by
  have h2 := h
  obtain ⟨al, ao, cl, co, xl, xo, rfl, hl, ho⟩ := h
  obtain ⟨va, vc, hv, hrd⟩ := RepsB.last hl
  have hS := hin.nx
  have hq1 : (s ++ [b]).length = s.length + 1 := by simp
  have Hv := Lib.hid hv
  have Hq := Lib.hid hq1
  clear hl ho hrd hv hq1
  have hno : Calls Tryz.prog 142 #[.int .u8 130] w fun e w' => e = .returned (.tuple #[.slice none 0 0, .bool false]) ∧ w = w' := orderNo_spec (c := 130) rfl
  go_enter Tryz.func129, Tryz.ntmps129
  go_wp2_with (first | (go_at_call 142; refine (hno).mono ?_; rintro e w' ⟨rfl, rfl⟩) | (go_at_call 76; refine (below_spec (k := 0) (hS.toInit.left (L := [_, _])) rfl (by rw [Hq.out]; omega) (by rw [Hq.out]; omega) Hv.out rfl).mono ?_; rintro e w' ⟨rfl, hn⟩; replace hS := Nx.call (L1 := [_, _]) hS hn; clear hn; simp only [List.set_cons_zero, List.set_cons_succ, List.cons_append, List.nil_append] at hS) | (go_at_call 143; refine (number12_spec hS.toInit h2 (by rw [Hq.out]; omega) (by omega) (by omega)).mono ?_; rintro e w' ⟨_, J, L', rfl, hn, hst⟩; replace hS := hS.trans hn; clear hn))
  go_ret
  exact ⟨rfl, J, L', hS, hst⟩

theorem do121_spec {I : Imm} {w : World} {sp : Nat} {s o : List Bs} {b : Bs} {L : List Item} (hin : Init I L w) (h : StkAt I sp (s ++ [b]) o L) (hs : s.length ≤ 100000) (hb : b.length ≤ 1000000) (takes : Bool) (c : Int) (hc : c = if takes then 122 else 121) :
    Calls Tryz.prog 129 #[.pointer (some ⟨sp, 0, none⟩), .int .u8 c] w (DoPost L I w sp (match farS takes (s ++ [b]) with | .error e => .error e | .ok s' => .ok (s', o))) := by
  have hS := hin.nx
  have hfar := farS_spec hin h hs hb takes
  unfold FarPost at hfar
  subst hc
  cases takes with
  | false =>
    have hno : Calls Tryz.prog 142 #[.int .u8 121] w fun e w' => e = .returned (.tuple #[.slice none 0 0, .bool false]) ∧ w = w' := orderNo_spec (c := 121) rfl
    cases hf : farS false (s ++ [b]) with
    | error c =>
      rw [hf] at hfar
      go_enter Tryz.func129, Tryz.ntmps129
      go_wp2_with (first | (go_at_call 142; refine (hno).mono ?_; rintro e w' ⟨rfl, rfl⟩) | (go_at_call 144; refine (hfar).mono ?_; rintro e w' ⟨rfl, J, L', hn⟩; replace hS := hS.trans hn; clear hn))
      go_ret
      exact ⟨rfl, J, L', hS⟩
    | ok s' =>
      rw [hf] at hfar
      go_enter Tryz.func129, Tryz.ntmps129
      go_wp2_with (first | (go_at_call 142; refine (hno).mono ?_; rintro e w' ⟨rfl, rfl⟩) | (go_at_call 144; refine (hfar).mono ?_; rintro e w' ⟨rfl, J, L', hn, hst⟩; replace hS := hS.trans hn; clear hn))
      go_ret
      exact ⟨rfl, J, L', hS, hst⟩
  | true =>
    have hno : Calls Tryz.prog 142 #[.int .u8 122] w fun e w' => e = .returned (.tuple #[.slice none 0 0, .bool false]) ∧ w = w' := orderNo_spec (c := 122) rfl
    cases hf : farS true (s ++ [b]) with
    | error c =>
      rw [hf] at hfar
      go_enter Tryz.func129, Tryz.ntmps129
      go_wp2_with (first | (go_at_call 142; refine (hno).mono ?_; rintro e w' ⟨rfl, rfl⟩) | (go_at_call 144; refine (hfar).mono ?_; rintro e w' ⟨rfl, J, L', hn⟩; replace hS := hS.trans hn; clear hn))
      go_ret
      exact ⟨rfl, J, L', hS⟩
    | ok s' =>
      rw [hf] at hfar
      go_enter Tryz.func129, Tryz.ntmps129
      go_wp2_with (first | (go_at_call 142; refine (hno).mono ?_; rintro e w' ⟨rfl, rfl⟩) | (go_at_call 144; refine (hfar).mono ?_; rintro e w' ⟨rfl, J, L', hn, hst⟩; replace hS := hS.trans hn; clear hn))
      go_ret
      exact ⟨rfl, J, L', hS, hst⟩
end Go.Proofs.YtmlgieclkedomaaGreat

namespace Go.Proofs.YtmlgieclkedomaaGreat
open Go Go.RowKit

def leastOk (c : UInt8) : Bool := match orderN c with
  | none => true
  | some p => match leastN c with
    | none => false
    | some k => p.all (fun q => decide (q < k)) && decide (k ≤ 6) && decide (p.length ≤ 6)
theorem order_least {c : UInt8} {p : List Nat} (h : orderN c = some p) : ∃ k, leastN c = some k ∧ (∀ q ∈ p, q < k) ∧ k ≤ 6 ∧ p.length ≤ 6 := by
  have hall : ∀ b : Fin 256, leastOk (UInt8.ofFin b) = true := by decide +kernel
  have := hall c.toFin
  have e : UInt8.ofFin c.toFin = c := rfl
  rw [e] at this
  unfold leastOk at this
  rw [h] at this
  cases hk : leastN c with
  | none => rw [hk] at this; cases this
  | some k =>
    rw [hk] at this
    simp only [Bool.and_eq_true, List.all_eq_true, decide_eq_true_eq] at this
    exact ⟨k, rfl, this.1.1, this.1.2, this.2⟩
theorem leastI_some {c : UInt8} {k : Nat} (h : leastN c = some k) : leastI c = k := by unfold leastI; rw [h]

def ordS (s : List Bs) (k : Nat) (p : List Nat) : List Bs := butN s k ++ p.map fun i => (lastN s k).getD i []
theorem ordS_step (s : List Bs) (k : Nat) (p : List Nat) (i : Nat) (hi : i < p.length) : ordS s k (p.take i) ++ [(lastN s k).getD p[i] []] = ordS s k (p.take (i + 1)) := by
  unfold ordS
  rw [List.take_succ_eq_append_getElem hi, List.map_append, List.append_assoc]; rfl

set_option maxRecDepth 10000 in
set_option maxHeartbeats 1000000 in
theorem doOrd_spec {I : Imm} {w : World} {sp : Nat} {s o : List Bs} {L : List Item} {c : UInt8} {p : List Nat} (hc : orderN c = some p) {k : Nat} (hk : leastN c = some k) (hks : k ≤ s.length) (hin : Init I L w) (h : StkAt I sp s o L) (hs : s.length + o.length ≤ 100000) :
    Calls Tryz.prog 129 #[.pointer (some ⟨sp, 0, none⟩), bv c] w (DoPost L I w sp (.ok (ordS s k p, o))) := by
  obtain ⟨k', hk', hq, hk6, hp6⟩ := order_least hc
  obtain rfl : k = k' := by rw [hk] at hk'; cases hk'; rfl
  obtain ⟨al, ao, cl, co, xl, xo, rfl, hl, ho⟩ := h
  have hS := hin.nx
  have hone := Reps.one hl
  have hxl := RepsB.len hl
  have hli := leastI_some hk
  have Hl := Lib.hid hl
  have Hxl := Lib.hid hxl
  have Hli := Lib.hid hli
  have hord := fun {I : Imm} {w : World} (hI : I.Holds w) => order_spec hI hc
  clear hl hxl hli hk hk' hc
  go_enter Tryz.func129, Tryz.ntmps129
  go_wp2_with (first | (go_at_call 142; refine (hord hS.hI).mono ?_; rintro e w' ⟨v, J, rfl, hn, hrdo⟩; have hleJ := hn.le hS.hI; replace hS := hS.pure0 hn; clear hn; obtain ⟨oa, oc, rfl, ho1, ho2, ho3⟩ := hrdo.ex; clear hrdo))
  replace hS := hS.drew
  refine rg_start (fun _ => True) [] (by kernel_rfl) ?_
  -- P0 P1 P2 P3 S4 S5 P6
  (refine rg_pure (v := ?v0u1) 0 rfl (by kernel_rfl) (fun _ _ _ h => h) rfl ?hy0u1 ?rest0u1; (case hy0u1 => (intro w; go_simp; try with_reducible rfl)); (try simp only [Act.put, List.setIfInBounds_toArray, List.set_cons_zero, List.set_cons_succ]))
  (refine rg_pure (v := ?v1u1) 1 rfl (by kernel_rfl) (fun _ _ _ h => h) rfl ?hy1u1 ?rest1u1; (case hy1u1 => (intro w; go_simp; try with_reducible rfl)); (try simp only [Act.put, List.setIfInBounds_toArray, List.set_cons_zero, List.set_cons_succ]))
  (refine rg_pure (v := ?v2u1) 2 rfl (by kernel_rfl) (fun _ _ _ h => h) rfl ?hy2u1 ?rest2u1; (case hy2u1 => (intro w; go_simp; try with_reducible rfl)); (try simp only [Act.put, List.setIfInBounds_toArray, List.set_cons_zero, List.set_cons_succ]))
  (refine rg_pure (v := ?v3u1) 3 rfl (by kernel_rfl) (fun _ _ _ h => h) rfl ?hy3u1 ?rest3u1; (case hy3u1 => (intro w; go_simp; try with_reducible rfl)); (try simp only [Act.put, List.setIfInBounds_toArray, List.set_cons_zero, List.set_cons_succ]))
  (refine rg_step 4 rfl (by kernel_rfl) (fun K' hK => ?_); go_wp2_with (first | (go_at_call 127; refine (least_spec).mono ?_; rintro e w' ⟨rfl, rfl⟩; rw [Hli.out]) | (go_at_call 141; refine (cut_spec (hS.toInit.left (L := [_, _])) rfl hone k hks (by omega)).mono ?_; rintro e w' ⟨a2, c2, rfl, hn⟩; replace hS := Nx.call (L1 := [_, _]) hS hn; clear hn; simp only [List.set_cons_zero, List.set_cons_succ, List.cons_append, List.nil_append] at hS)); (try with_reducible refine rg_back ?_); refine hK.out _ _ (fun h => absurd h (by decide)) ?_; clear hK; clear K'; (try simp only [Act.put, List.setIfInBounds_toArray, List.set_cons_zero, List.set_cons_succ]))
  (refine rg_step 5 rfl (by kernel_rfl) (fun K' hK => ?_); go_wp2_with (first | (go_at_call 127; refine (least_spec).mono ?_; rintro e w' ⟨rfl, rfl⟩; rw [Hli.out]) | (go_at_call 141; refine (cut_spec (hS.toInit.left (L := [_, _])) rfl hone k hks (by omega)).mono ?_; rintro e w' ⟨a2, c2, rfl, hn⟩; replace hS := Nx.call (L1 := [_, _]) hS hn; clear hn; simp only [List.set_cons_zero, List.set_cons_succ, List.cons_append, List.nil_append] at hS)); (try with_reducible refine rg_back ?_); refine hK.out _ _ (fun h => absurd h (by decide)) ?_; clear hK; clear K'; (try simp only [Act.put, List.setIfInBounds_toArray, List.set_cons_zero, List.set_cons_succ]))
  (refine rg_pure (v := ?v6u1) 6 rfl (by kernel_rfl) (fun _ _ _ h => h) rfl ?hy6u1 ?rest6u1; (case hy6u1 => (intro w; go_simp; try with_reducible rfl)); (try simp only [Act.put, List.setIfInBounds_toArray, List.set_cons_zero, List.set_cons_succ]))
  refine rg_done (by kernel_rfl) ?_
  go_wp2_with fail
  replace hS := Nx.rot hS
  simp only [List.cons_append, List.nil_append] at hS
  have hst0 : StkAt J sp (ordS s k (p.take 0)) o (stkL sp al ao (s.length - k) (s.length - k) o.length co (xl.take (s.length - k)) xo) := by
    have e0 : ordS s k (p.take 0) = s.take (s.length - k) := by unfold ordS butN; simp
    have e1 : (s.take (s.length - k)).length = s.length - k := by rw [List.length_take]; omega
    rw [e0]
    exact ⟨al, ao, _, co, _, xo, by rw [e1], (RepsB.take (Hl.out.mono hleJ) (s.length - k)), ho.mono hleJ⟩
  have hrl : Reps J (lastN s k) (xl.drop (s.length - k)) := RepsB.drop (Hl.out.mono hleJ) _
  have hll : (lastN s k).length = k := by unfold lastN; rw [List.length_drop]; omega
  have Hstep := Lib.hid (ordS_step s k p)
  have hol : ∀ i, (ordS s k (p.take i)).length ≤ s.length + 6 := fun i => by unfold ordS butN; simp; omega
  have Hol := Lib.hid hol
  have Hq := Lib.hid hq
  have Hll := Lib.hid hll
  clear hq hol hll
  go_loopw [24] (fun v24 wr => ∃ i K L', i ≤ p.length ∧ v24 = .int .i64 (i : Nat) ∧ J.Le K ∧ StkAt K sp (ordS s k (p.take i)) o L' ∧ Nx (stkL sp al ao s.length cl o.length co xl xo) I w K (L' ++ [.row 1 22 (.slice a2 k c2) k (xl.drop (s.length - k))]) wr) (fun v24 _ => p.length - (intOf v24).toNat)
  case atStart => exact ⟨0, J, _, by omega, rfl, Imm.Le.refl _, hst0, hS⟩
  case round =>
    clear hS hst0
    obtain ⟨i, K, L', hi, rfl, hleK, hst, hS⟩ := hrel
    by_cases hlt : i < p.length
    · obtain ⟨q, hqp⟩ : ∃ q, q = p[i] := ⟨_, rfl⟩
      have hqk : q < k := Hq.out q (by rw [hqp]; exact List.getElem_mem _)
      obtain ⟨al, ao, cl, co, xl2, xo, rfl, hl2, ho2⟩ := hst
      obtain ⟨n2, hn2⟩ : ∃ n2, n2 = (ordS s k (p.take i)).length := ⟨_, rfl⟩
      have hn2l := Hol.out i
      rw [← hn2] at hS hn2l
      simp only [List.cons_append, List.nil_append] at hS
      obtain ⟨ob, oj, rfl, hat⟩ : ∃ b j, oa = some ⟨b, j, none⟩ ∧ J.At b j (ordV p) := by
        rcases ho3 with ⟨_, h, _⟩ | ⟨b, j, e, hat⟩
        · omega
        · exact ⟨b, j, e, hat⟩
      have hpi : (ordV p)[i]? = some (.int .i64 (q : Nat)) := by unfold ordV; rw [List.getElem?_map, List.getElem?_eq_getElem hlt, hqp]; rfl
      have hcell := (hat.mono hleK).cell hS.hI i hpi
      obtain ⟨g, rfl, hgc⟩ := hS.row_ad (i := 3) rfl (by omega)
      have hllk := Hll.out
      obtain ⟨ua, uc, hu, hrd⟩ := RepsB.at (hrl.mono hleK) q (by omega)
      obtain ⟨b2, hb2⟩ : ∃ b2, b2 = (lastN s k)[q] := ⟨_, rfl⟩
      rw [← hb2] at hu hrd
      have hb2' : (lastN s k).getD p[i] [] = b2 := by rw [← hqp, hb2, List.getD_eq_getElem?_getD, List.getElem?_eq_getElem (by omega)]; rfl
      have hstep := Hstep.out i hlt
      rw [hb2'] at hstep
      have Hs := Lib.hid hstep
      have Hn2 := Lib.hid hn2
      have Hu := Lib.hid hu
      have Hl2 := Lib.hid hl2
      clear hpi hat ho3 hllk hb2 hb2' hstep hn2 hu hl2 hqp hrl
      go_wp2_with (first | ((with_reducible refine gL_load ?_); refine sL_loadC rfl _ _ rfl _ _ rfl _ hcell ?_))
      replace hS := hS.drew
      refine rg_start (fun w => w.cell? ⟨g, q, none⟩ = some (.slice ua b2.length uc)) [8] (by kernel_rfl) ?_
      -- P0 P1 P2 P3 P4 P5 L6 S7 S8
      (refine rg_pure (v := ?v0u2) 0 rfl (by kernel_rfl) (fun _ _ _ h => h) rfl ?hy0u2 ?rest0u2; (case hy0u2 => (intro w; go_simp; try with_reducible rfl)); (try simp only [Act.put, List.setIfInBounds_toArray, List.set_cons_zero, List.set_cons_succ]))
      (refine rg_pure (v := ?v1u2) 1 rfl (by kernel_rfl) (fun _ _ _ h => h) rfl ?hy1u2 ?rest1u2; (case hy1u2 => (intro w; go_simp; try with_reducible rfl)); (try simp only [Act.put, List.setIfInBounds_toArray, List.set_cons_zero, List.set_cons_succ]))
      (refine rg_pure (v := ?v2u2) 2 rfl (by kernel_rfl) (fun _ _ _ h => h) rfl ?hy2u2 ?rest2u2; (case hy2u2 => (intro w; go_simp; try with_reducible rfl)); (try simp only [Act.put, List.setIfInBounds_toArray, List.set_cons_zero, List.set_cons_succ]))
      (refine rg_pure (v := ?v3u2) 3 rfl (by kernel_rfl) (fun _ _ _ h => h) rfl ?hy3u2 ?rest3u2; (case hy3u2 => (intro w; go_simp; try with_reducible rfl)); (try simp only [Act.put, List.setIfInBounds_toArray, List.set_cons_zero, List.set_cons_succ]))
      (refine rg_pure (v := ?v4u2) 4 rfl (by kernel_rfl) (fun _ _ _ h => h) rfl ?hy4u2 ?rest4u2; (case hy4u2 => (intro w; go_simp; try with_reducible rfl)); (try simp only [Act.put, List.setIfInBounds_toArray, List.set_cons_zero, List.set_cons_succ]))
      (refine rg_pure (v := ?v5u2) 5 rfl (by kernel_rfl) (fun _ _ _ h => h) rfl ?hy5u2 ?rest5u2; (case hy5u2 => (intro w; go_simp; try with_reducible rfl)); (try simp only [Act.put, List.setIfInBounds_toArray, List.set_cons_zero, List.set_cons_succ]))
      ((first | (refine rg_load 6 rfl (by kernel_rfl) rfl (by exact hS.rowCell (i := 3) rfl q _ Hu.out) _ _ rfl _ _ rfl _ (fun w hS => hS) (fun _ _ _ h => h) ?_)); (try simp only [Act.put, List.setIfInBounds_toArray, List.set_cons_zero, List.set_cons_succ]))
      (refine rg_step 7 rfl (by kernel_rfl) (fun K' hK => ?_); go_wp2_with (first | (((with_reducible refine gL_lit ?_); first | (refine sL_lit0 hS rfl _ rfl ?_; clear hS; intro lb w' hlb hS) | (refine sL_lit1 hS rfl _ _ rfl _ (by go_simp; first | exact rfl | exact ⟨rfl, rfl⟩) rfl ?_; clear hS; intro lb w' hlb hS) | (refine sL_lit2 hS rfl _ _ _ rfl _ _ (by go_simp; first | exact rfl | exact ⟨rfl, rfl⟩) (by go_simp; first | exact rfl | exact ⟨rfl, rfl⟩) rfl rfl ?_; clear hS; intro lb w' hlb hS) | (refine sL_lit12 hS rfl _ _ rfl _ _ (by go_simp; first | exact rfl | exact ⟨rfl, rfl⟩) ?_; clear hS; intro lb w' hlb hS)); obtain ⟨K3, hS3, hle3, hat3⟩ := hS.freezeBlk hlb; clear hS; have hS := hS3; clear hS3) | (go_at_call 48; refine (put12_spec (m := 1) (hS.toInit.left (L := [_, _])) rfl (Rd.ofBlk hat3 (by decide)) rfl (by simp [Value.oneCell']) (by omega)).mono ?_; rintro e w' ⟨_, pa, pc, rfl, hn⟩; replace hS := Nx.call (L1 := [_, _]) hS hn; clear hn; simp only [List.set_cons_zero, List.set_cons_succ, List.cons_append, List.nil_append] at hS)); (try with_reducible refine rg_back ?_); refine hK.out _ _ (fun h => absurd h (by decide)) ?_; clear hK; clear K'; (try simp only [Act.put, List.setIfInBounds_toArray, List.set_cons_zero, List.set_cons_succ]))
      (refine rg_step 8 rfl (by kernel_rfl) (fun K' hK => ?_); go_wp2_with (first | (((with_reducible refine gL_lit ?_); first | (refine sL_lit0 hS rfl _ rfl ?_; clear hS; intro lb w' hlb hS) | (refine sL_lit1 hS rfl _ _ rfl _ (by go_simp; first | exact rfl | exact ⟨rfl, rfl⟩) rfl ?_; clear hS; intro lb w' hlb hS) | (refine sL_lit2 hS rfl _ _ _ rfl _ _ (by go_simp; first | exact rfl | exact ⟨rfl, rfl⟩) (by go_simp; first | exact rfl | exact ⟨rfl, rfl⟩) rfl rfl ?_; clear hS; intro lb w' hlb hS) | (refine sL_lit12 hS rfl _ _ rfl _ _ (by go_simp; first | exact rfl | exact ⟨rfl, rfl⟩) ?_; clear hS; intro lb w' hlb hS)); obtain ⟨K3, hS3, hle3, hat3⟩ := hS.freezeBlk hlb; clear hS; have hS := hS3; clear hS3) | (go_at_call 48; refine (put12_spec (m := 1) (hS.toInit.left (L := [_, _])) rfl (Rd.ofBlk hat3 (by decide)) rfl (by simp [Value.oneCell']) (by omega)).mono ?_; rintro e w' ⟨_, pa, pc, rfl, hn⟩; replace hS := Nx.call (L1 := [_, _]) hS hn; clear hn; simp only [List.set_cons_zero, List.set_cons_succ, List.cons_append, List.nil_append] at hS)); (try with_reducible refine rg_back ?_); refine hK.out _ _ (fun _ => by exact hS.rowCell (i := 3) rfl q _ Hu.out) ?_; clear hK; clear K'; (try simp only [Act.put, List.setIfInBounds_toArray, List.set_cons_zero, List.set_cons_succ]))
      refine rg_done (by kernel_rfl) ?_
      go_wp2_with fail
      have hr3 : Reps K3 (ordS s k (p.take (i + 1))) (xl2 ++ [.slice ua b2.length uc]) := by rw [← Hs.out]; exact (Hl2.out.mono hle3).append (RepsB.one (hrd.mono hle3))
      have hn3 : (ordS s k (p.take (i + 1))).length = n2 + 1 := by rw [← Hs.out, List.length_append, ← Hn2.out]; rfl
      go_roundw
      case rel => exact ⟨i + 1, K3, [_, _, _], hlt, by simp, hleK.trans hle3, ⟨pa, ao, pc, co, _, xo, by rw [hn3], hr3, ho2.mono hle3⟩, hS⟩
      case measure => simp [intOf]; omega
    · obtain rfl : i = p.length := by omega
      go_wp2_with fail
      go_ret
      rw [List.take_length] at hst
      have hS2 := hS.perm List.perm_append_comm
      exact ⟨rfl, K, L', hS2.drop, hst⟩
end Go.Proofs.YtmlgieclkedomaaGreat

namespace Go.Proofs.YtmlgieclkedomaaGreat
open Go Go.RowKit
section
variable {P : Program} {l : List Oper} {Q : Exit → Act → World → Prop} {S : World → Prop} {need : List Nat} {a : Act} {w : World} {fuel : Nat} {listed : Array Bool}
def StepsX (P : Program) (l : List Oper) (Q : Exit → Act → World → Prop) (S : World → Prop) (need : List Nat) (fuel : Nat) (listed : Array Bool) (a : Act) (w : World) : List Nat → Prop
  | [] => True
  | i :: rs => (∃ o, l[i]? = some o ∧ ∀ K', Shut (∀ a w, (need.contains i = true → S w) → wpX P l Q S need fuel (listed.setIfInBounds i true) a w → K' a w) → wpList P l.toArray (kpost K' Q) [o] a w) ∧ StepsX P l Q S need fuel listed a w rs
theorem StepsX.at {rs : List Nat} (h : StepsX P l Q S need fuel listed a w rs) : ∀ i ∈ rs, ∃ o, l[i]? = some o ∧ ∀ K', Shut (∀ a w, (need.contains i = true → S w) → wpX P l Q S need fuel (listed.setIfInBounds i true) a w → K' a w) → wpList P l.toArray (kpost K' Q) [o] a w := by
  induction rs with
  | nil => intro i hi; cases hi
  | cons j rs ih =>
    intro i hi
    rcases List.mem_cons.1 hi with rfl | hi
    · exact h.1
    · exact ih h.2 i hi
/-- a drawing region begins: the draws are in the items' fact already -/
theorem rg_startN {L0 : List Item} {I0 I : Imm} {w0 : World} {L : List Item} {ops : List Oper} (hS : Nx L0 I0 w0 I L w) (S : World → Prop) (need : List Nat) {id : Nat} (hm : P.follows .mixedOrders = true)
    (h : ∀ w', Nx L0 I0 w0 I L w' → wpX P ops Q S need ops.length (Array.replicate ops.length false) a w') : (Code.region id ops.toArray true).wp P Q a w :=
  rg_start S need hm (h _ hS.drew)
theorem rg_steps (rs : List Nat) (hr : (Region.ready .any l.toArray listed == rs && !rs.isEmpty) = true) (h : StepsX P l Q S need fuel listed a w rs) : wpX P l Q S need (fuel + 1) listed a w := by
  rw [Bool.and_eq_true] at hr
  have hr' : Region.ready .any l.toArray listed = rs := by simpa using hr.1
  refine ⟨fun h0 => ?_, fun k hk => ?_⟩
  · rw [hr'] at h0; subst h0; simp at hr
  · obtain ⟨o, hi, h⟩ := h.at k (by rw [← hr']; exact hk)
    obtain ⟨K, hK⟩ : ∃ K, K = (fun a' w' => (need.contains k = true → S w') ∧ wpX P l Q S need fuel (listed.setIfInBounds k true) a' w') := ⟨_, rfl⟩
    have h2 := h K (fun a w hS hW => by rw [hK]; exact ⟨hS, hW⟩)
    unfold wpList at h2
    unfold wpOp
    simp only [List.getElem?_toArray, hi]
    rw [← hK]
    have hl : wpList P l.toArray (kpost K Q) [] = K := by funext a w; unfold wpList; rfl
    rw [hl] at h2
    split
    · rename_i hw
      rw [if_pos hw] at h2
      rcases h2 with h2 | h2
      · refine .inl ?_
        unfold Oper.wp at h2 ⊢
        generalize (execOp a.eval o).run P w = r at h2
        cases r with
        | ok n w' => cases n <;> exact h2
        | halt x w' => cases x <;> exact h2
      · exact .inr h2
    · rename_i hw
      rw [if_neg hw, hK] at h2
      exact h2
end
/-- where the ways meet: what is shown once, of whatever blocks there are -/
theorem meet2 {A : Nat → Nat → World → Prop} {G : Nat → Nat → World → Prop} {goal : Prop} (hb : (∀ x y w, A x y w → G x y w) → goal) (hc : ∀ x y w, A x y w → G x y w) : goal := hb hc
end Go.Proofs.YtmlgieclkedomaaGreat

namespace Go.Proofs.YtmlgieclkedomaaGreat
open Go Go.RowKit

def restOk (c : UInt8) : Bool := match orderN c, leastN c with
  | none, some k => (decide (c = 107) && k == 1) || (decide (c = 108) && k == 0) || (decide (c = 115) && k == 1) || (decide (c = 116) && k == 0) || (decide (c = 121) && k == 1) || (decide (c = 122) && k == 1) || (decide (c = 130) && k == 1)
  | _, _ => true
theorem rest_codes {c : UInt8} {k : Nat} (h : orderN c = none) (hk : leastN c = some k) : (c = 107 ∧ k = 1) ∨ (c = 108 ∧ k = 0) ∨ (c = 115 ∧ k = 1) ∨ (c = 116 ∧ k = 0) ∨ (c = 121 ∧ k = 1) ∨ (c = 122 ∧ k = 1) ∨ (c = 130 ∧ k = 1) := by
  have hall : ∀ b : Fin 256, restOk (UInt8.ofFin b) = true := by decide +kernel
  have := hall c.toFin
  have e : UInt8.ofFin c.toFin = c := rfl
  rw [e] at this
  unfold restOk at this
  rw [h, hk] at this
  simpa [or_assoc] using this
theorem snoc_of {s : List Bs} (h : 1 ≤ s.length) : ∃ s' b, s = s' ++ [b] := by
  have hne : s ≠ [] := by intro e; subst e; simp at h
  exact ⟨s.dropLast, s.getLast hne, (List.dropLast_concat_getLast hne).symm⟩
theorem do_spec {I : Imm} {w : World} {sp : Nat} {s o : List Bs} {L : List Item} {c : UInt8} {k : Nat} (hk : leastN c = some k) (hks : k ≤ s.length) (hin : Init I L w) (h : StkAt I sp s o L) (hs : s.length + o.length ≤ 80000) (hb : ∀ b ∈ s, b.length ≤ 1000000) :
    Calls Tryz.prog 129 #[.pointer (some ⟨sp, 0, none⟩), bv c] w (DoPost L I w sp (doS c s o)) := by
  cases hc : orderN c with
  | some p =>
    have e : doS c s o = .ok (ordS s k p, o) := by unfold doS ordS; rw [hc, hk]; rfl
    rw [e]
    exact doOrd_spec hc hk hks hin h (by omega)
  | none =>
    rcases rest_codes hc hk with ⟨rfl, rfl⟩ | ⟨rfl, rfl⟩ | ⟨rfl, rfl⟩ | ⟨rfl, rfl⟩ | ⟨rfl, rfl⟩ | ⟨rfl, rfl⟩ | ⟨rfl, rfl⟩
    · exact do107_spec hin h (by omega) hks
    · cases o with
      | nil => exact do108E_spec hin h
      | cons x o => exact do108_spec hin h (by omega) (by simp)
    · obtain ⟨s, b, rfl⟩ := snoc_of hks
      have e : doS 115 (s ++ [b]) o = .ok (if trueB b then s ++ [b] ++ [b] else s ++ [b], o) := by
        show Except.ok _ = _
        simp [List.getLastD_eq_getLast?]
      rw [e]
      exact do115_spec hin h (by simp at hs; omega) (hb b (by simp))
    · exact do116_spec hin h (by omega)
    · obtain ⟨s, b, rfl⟩ := snoc_of hks
      exact do121_spec hin h (by simp at hs; omega) (hb b (by simp)) false 121 rfl
    · obtain ⟨s, b, rfl⟩ := snoc_of hks
      exact do121_spec hin h (by simp at hs; omega) (hb b (by simp)) true 122 rfl
    · obtain ⟨s, b, rfl⟩ := snoc_of hks
      have e : doS 130 (s ++ [b]) o = .ok (s ++ [b] ++ [numB b.length], o) := by
        show Except.ok _ = _
        simp [List.getLastD_eq_getLast?]
      rw [e]
      exact do130_spec hin h (by simp at hs; omega) (hb b (by simp))
theorem doS_err {c : UInt8} {s o : List Bs} {e : Int} (h : doS c s o = .error e) : e = 120 ∨ e = 110 := by
  unfold doS at h
  split at h
  · cases h
  · split at h
    · cases h
    · split at h
      · split at h
        · cases h; exact .inl rfl
        · cases h
      · split at h
        · cases h
        · split at h
          · cases h
          · split at h
            · cases h
            · split at h
              · rename_i e' hf
                cases h
                unfold farS at hf
                split at hf
                · cases hf; exact .inl rfl
                · split at hf
                  · cases hf; exact .inr rfl
                  · simp only at hf
                    split at hf
                    · cases hf; exact .inl rfl
                    · cases hf
              · cases h
theorem doS_len {c : UInt8} {s o s' o' : List Bs} {k : Nat} (hk : leastN c = some k) (hks : k ≤ s.length) (h : doS c s o = .ok (s', o')) : s'.length + o'.length ≤ s.length + o.length + 6 := by
  cases hc : orderN c with
  | some p =>
    obtain ⟨k', hk', -, h6, hp6⟩ := order_least hc
    unfold doS at h
    rw [hc] at h
    simp only [Except.ok.injEq, Prod.mk.injEq] at h
    obtain ⟨rfl, rfl⟩ := h
    simp [butN]; omega
  | none =>
    unfold doS at h
    rw [hc] at h
    rcases rest_codes hc hk with ⟨rfl, rfl⟩ | ⟨rfl, rfl⟩ | ⟨rfl, rfl⟩ | ⟨rfl, rfl⟩ | ⟨rfl, rfl⟩ | ⟨rfl, rfl⟩ | ⟨rfl, rfl⟩
    · simp only [if_pos, Except.ok.injEq, Prod.mk.injEq] at h
      obtain ⟨rfl, rfl⟩ := h
      simp [butN, lastN]; omega
    · have e : (if o.length = 0 then Except.error (120 : Int) else Except.ok (s ++ lastN o 1, butN o 1)) = Except.ok (s', o') := h
      split at e
      · cases e
      · cases e; simp [butN, lastN]; omega
    · have e : Except.ok (ε := Int) (if trueB (s.getLastD []) then s ++ [s.getLastD []] else s, o) = Except.ok (s', o') := h
      cases e
      split <;> simp <;> omega
    · have e : Except.ok (ε := Int) (s ++ [numB s.length], o) = Except.ok (s', o') := h
      cases e; simp; omega
    all_goals first
      | (have e : Except.ok (ε := Int) (s ++ [numB (s.getLastD []).length], o) = Except.ok (s', o') := h
         cases e; simp; omega)
      | (obtain ⟨s, b, rfl⟩ := snoc_of hks
         have e : ∀ t, (match farS t (s ++ [b]) with | .error e => Except.error e | .ok s' => Except.ok (s', o)) = Except.ok (s', o') → s'.length + o'.length ≤ (s ++ [b]).length + o.length + 6 := by
           intro t ht
           rw [farS_eq] at ht
           cases hd : decB b with
           | none => rw [hd] at ht; cases ht
           | some n =>
             rw [hd] at ht
             simp only at ht
             split at ht
             · cases ht
             · rename_i s2 hx
               split at hx
               · cases hx
               · cases hx; cases ht
                 cases t <;> simp [List.length_eraseIdx] <;> (try split) <;> omega
         exact e _ h)
theorem meet5 {A : Option Addr → Nat → Option Addr → Nat → Nat → World → Prop} {G : Option Addr → Nat → Option Addr → Nat → Nat → World → Prop} {goal : Prop} (hb : (∀ a b c d e w, A a b c d e w → G a b c d e w) → goal) (hc : ∀ a b c d e w, A a b c d e w → G a b c d e w) : goal := hb hc
def StkDoPost (L : List Item) (I : Imm) (w : World) (sp : Nat) (r : Except Int (List Bs × List Bs)) (e : Ending) (w' : World) : Prop :=
  match r with
  | .error c => e = .returned (.int .i64 c) ∧ ∃ J, Nx L I w J L w'
  | .ok (s', o') => e = .returned (.int .i64 0) ∧ ∃ J L', Nx L I w J L' w' ∧ StkAt J sp s' o' L'

set_option maxRecDepth 10000 in
set_option maxHeartbeats 4000000 in
theorem Do_spec {I : Imm} {w : World} {sp : Nat} {s o : List Bs} {L : List Item} {c : UInt8} (hin : Init I L w) (h : StkAt I sp s o L) (hs : s.length + o.length ≤ 80000) (hb : ∀ b ∈ s, b.length ≤ 1000000) :
    Calls Tryz.prog 111 #[.pointer (some ⟨sp, 0, none⟩), bv c] w (StkDoPost L I w sp (stackDo c s o)) := by
  obtain ⟨al, ao, cl, co, xl, xo, rfl, hl, ho⟩ := h
  have hS := hin.nx
  cases hk : leastN c with
  | none =>
    have e : stackDo c s o = .error 2 := by unfold stackDo; rw [hk]
    rw [e]
    have hd : (leastN c).isSome = false := by rw [hk]; rfl
    clear hk e
    go_enter Tryz.func111, Tryz.ntmps111
    go_wp2_with (first | (go_at_call 110; refine (Does_spec).mono ?_; rintro e w' ⟨rfl, rfl⟩; rw [hd]))
    go_ret
    exact ⟨rfl, I, hS⟩
  | some k =>
    have hd : (leastN c).isSome = true := by rw [hk]; rfl
    have hli := leastI_some hk
    have Hli := Lib.hid hli
    by_cases hks : s.length < k
    · have e : stackDo c s o = .error 120 := by unfold stackDo; rw [hk]; simp only; rw [if_pos hks]
      rw [e]
      have hki : (s.length : Int) < k := by omega
      clear hk e hli
      go_enter Tryz.func111, Tryz.ntmps111
      go_wp2_with (first | (go_at_call 110; refine (Does_spec).mono ?_; rintro e w' ⟨rfl, rfl⟩; rw [hd]) | (go_at_call 72; refine (deep_spec (hS.blkCell 0 rfl 0 rfl)).mono ?_; rintro e w' ⟨rfl, rfl⟩) | (go_at_call 127; refine (least_spec).mono ?_; rintro e w' ⟨rfl, rfl⟩; rw [Hli.out]))
      go_ret
      exact ⟨rfl, I, hS⟩
    · have e : stackDo c s o = match doS c s o with
          | .error e => .error e
          | .ok (s', o') => if s'.length + o'.length > 100 then .error 121 else .ok (s', o') := by
        unfold stackDo; rw [hk]; simp only; rw [if_neg hks]; cases doS c s o <;> rfl
      obtain ⟨R, hR⟩ : ∃ R, R = stackDo c s o := ⟨_, rfl⟩
      rw [← hR]
      rw [e] at hR
      have HR := Lib.hid hR
      clear hR
      have hki : ¬ (s.length : Int) < k := by omega
      have hk' := Lib.hid hk
      have hdo := fun {I : Imm} {w : World} {sp : Nat} {L : List Item} (hin : Init I L w) (h : StkAt I sp s o L) => do_spec hk (by omega) hin h hs hb
      have hone := Reps.one hl
      have hxl := RepsB.len hl
      have hono := Reps.one ho
      have hxo := RepsB.len ho
      have Hl := Lib.hid hl
      have Ho := Lib.hid ho
      have Hxl := Lib.hid hxl
      have Hxo := Lib.hid hxo
      clear hk e hli hl ho hxl hxo
      go_enter Tryz.func111, Tryz.ntmps111
      go_wp2_with (first | (go_at_call 110; refine (Does_spec).mono ?_; rintro e w' ⟨rfl, rfl⟩; rw [hd]) | (go_at_call 72; refine (deep_spec (hS.blkCell 0 rfl 0 rfl)).mono ?_; rintro e w' ⟨rfl, rfl⟩) | (go_at_call 127; refine (least_spec).mono ?_; rintro e w' ⟨rfl, rfl⟩; rw [Hli.out]))
      have hl0 : al = none → cl = 0 := fun e => by subst e; exact (hS.nilCap (i := 1) rfl).2
      have ho0 : ao = none → co = 0 := fun e => by subst e; exact (hS.nilCap (i := 2) rfl).2
      have hlc : s.length ≤ cl := (hS.capOf (i := 1) rfl).1
      have hoc : o.length ≤ co := (hS.capOf (i := 2) rfl).1
      revert hS
      apply meet5 (A := fun na nc ma mc tb w' => Nx (stkL sp al ao s.length cl o.length co xl xo) I w I (stkL tb na ma s.length nc o.length mc xl xo ++ stkL sp al ao s.length cl o.length co xl xo) w')
      case hb =>
        intro hG hS
        refine rg_startN hS (fun w => w.cell? ⟨sp, 0, none⟩ = some (.slice al s.length cl) ∧ w.cell? ⟨sp, 1, none⟩ = some (.slice ao o.length co)) [0, 1, 2, 3, 4, 5, 6, 7, 8, 9, 10, 11, 12, 13, 14, 15, 16] (by kernel_rfl) ?_; clear hS; intro w' hS
        (refine rg_pureS (v := ?v0b1x1) 0 rfl (by kernel_rfl) (fun _ _ _ h => h) rfl (by first | exact ⟨hS.blkCell 0 rfl 0 rfl, hS.blkCell 0 rfl 1 rfl⟩ | exact ⟨hS.blkCell 1 rfl 0 rfl, hS.blkCell 1 rfl 1 rfl⟩ | exact ⟨hS.blkCell 2 rfl 0 rfl, hS.blkCell 2 rfl 1 rfl⟩ | exact ⟨hS.blkCell 3 rfl 0 rfl, hS.blkCell 3 rfl 1 rfl⟩) ?hy0b1x1 ?rest0b1x1; (case hy0b1x1 => (intro w; go_simp; try with_reducible rfl)); (try simp only [Act.put, List.setIfInBounds_toArray, List.set_cons_zero, List.set_cons_succ]))
        (refine rg_pureS (v := ?v1b1x2) 1 rfl (by kernel_rfl) (fun _ _ _ h => h) rfl (by first | exact ⟨hS.blkCell 0 rfl 0 rfl, hS.blkCell 0 rfl 1 rfl⟩ | exact ⟨hS.blkCell 1 rfl 0 rfl, hS.blkCell 1 rfl 1 rfl⟩ | exact ⟨hS.blkCell 2 rfl 0 rfl, hS.blkCell 2 rfl 1 rfl⟩ | exact ⟨hS.blkCell 3 rfl 0 rfl, hS.blkCell 3 rfl 1 rfl⟩) ?hy1b1x2 ?rest1b1x2; (case hy1b1x2 => (intro w; go_simp; try with_reducible rfl)); (try simp only [Act.put, List.setIfInBounds_toArray, List.set_cons_zero, List.set_cons_succ]))
        (refine rg_pureS (v := ?v2b1x3) 2 rfl (by kernel_rfl) (fun _ _ _ h => h) rfl (by first | exact ⟨hS.blkCell 0 rfl 0 rfl, hS.blkCell 0 rfl 1 rfl⟩ | exact ⟨hS.blkCell 1 rfl 0 rfl, hS.blkCell 1 rfl 1 rfl⟩ | exact ⟨hS.blkCell 2 rfl 0 rfl, hS.blkCell 2 rfl 1 rfl⟩ | exact ⟨hS.blkCell 3 rfl 0 rfl, hS.blkCell 3 rfl 1 rfl⟩) ?hy2b1x3 ?rest2b1x3; (case hy2b1x3 => (intro w; go_simp; try with_reducible rfl)); (try simp only [Act.put, List.setIfInBounds_toArray, List.set_cons_zero, List.set_cons_succ]))
        (refine rg_pureS (v := ?v3b1x4) 3 rfl (by kernel_rfl) (fun _ _ _ h => h) rfl (by first | exact ⟨hS.blkCell 0 rfl 0 rfl, hS.blkCell 0 rfl 1 rfl⟩ | exact ⟨hS.blkCell 1 rfl 0 rfl, hS.blkCell 1 rfl 1 rfl⟩ | exact ⟨hS.blkCell 2 rfl 0 rfl, hS.blkCell 2 rfl 1 rfl⟩ | exact ⟨hS.blkCell 3 rfl 0 rfl, hS.blkCell 3 rfl 1 rfl⟩) ?hy3b1x4 ?rest3b1x4; (case hy3b1x4 => (intro w; go_simp; try with_reducible rfl)); (try simp only [Act.put, List.setIfInBounds_toArray, List.set_cons_zero, List.set_cons_succ]))
        (refine rg_pureS (v := ?v7b1x5) 7 rfl (by kernel_rfl) (fun _ _ _ h => h) rfl (by first | exact ⟨hS.blkCell 0 rfl 0 rfl, hS.blkCell 0 rfl 1 rfl⟩ | exact ⟨hS.blkCell 1 rfl 0 rfl, hS.blkCell 1 rfl 1 rfl⟩ | exact ⟨hS.blkCell 2 rfl 0 rfl, hS.blkCell 2 rfl 1 rfl⟩ | exact ⟨hS.blkCell 3 rfl 0 rfl, hS.blkCell 3 rfl 1 rfl⟩) ?hy7b1x5 ?rest7b1x5; (case hy7b1x5 => (intro w; go_simp; try with_reducible rfl)); (try simp only [Act.put, List.setIfInBounds_toArray, List.set_cons_zero, List.set_cons_succ]))
        (refine rg_pureS (v := ?v8b1x6) 8 rfl (by kernel_rfl) (fun _ _ _ h => h) rfl (by first | exact ⟨hS.blkCell 0 rfl 0 rfl, hS.blkCell 0 rfl 1 rfl⟩ | exact ⟨hS.blkCell 1 rfl 0 rfl, hS.blkCell 1 rfl 1 rfl⟩ | exact ⟨hS.blkCell 2 rfl 0 rfl, hS.blkCell 2 rfl 1 rfl⟩ | exact ⟨hS.blkCell 3 rfl 0 rfl, hS.blkCell 3 rfl 1 rfl⟩) ?hy8b1x6 ?rest8b1x6; (case hy8b1x6 => (intro w; go_simp; try with_reducible rfl)); (try simp only [Act.put, List.setIfInBounds_toArray, List.set_cons_zero, List.set_cons_succ]))
        (refine rg_pureS (v := ?v9b1x7) 9 rfl (by kernel_rfl) (fun _ _ _ h => h) rfl (by first | exact ⟨hS.blkCell 0 rfl 0 rfl, hS.blkCell 0 rfl 1 rfl⟩ | exact ⟨hS.blkCell 1 rfl 0 rfl, hS.blkCell 1 rfl 1 rfl⟩ | exact ⟨hS.blkCell 2 rfl 0 rfl, hS.blkCell 2 rfl 1 rfl⟩ | exact ⟨hS.blkCell 3 rfl 0 rfl, hS.blkCell 3 rfl 1 rfl⟩) ?hy9b1x7 ?rest9b1x7; (case hy9b1x7 => (intro w; go_simp; try with_reducible rfl)); (try simp only [Act.put, List.setIfInBounds_toArray, List.set_cons_zero, List.set_cons_succ]))
        (refine rg_pureS (v := ?v10b1x8) 10 rfl (by kernel_rfl) (fun _ _ _ h => h) rfl (by first | exact ⟨hS.blkCell 0 rfl 0 rfl, hS.blkCell 0 rfl 1 rfl⟩ | exact ⟨hS.blkCell 1 rfl 0 rfl, hS.blkCell 1 rfl 1 rfl⟩ | exact ⟨hS.blkCell 2 rfl 0 rfl, hS.blkCell 2 rfl 1 rfl⟩ | exact ⟨hS.blkCell 3 rfl 0 rfl, hS.blkCell 3 rfl 1 rfl⟩) ?hy10b1x8 ?rest10b1x8; (case hy10b1x8 => (intro w; go_simp; try with_reducible rfl)); (try simp only [Act.put, List.setIfInBounds_toArray, List.set_cons_zero, List.set_cons_succ]))
        ((first | (refine rg_load 4 rfl (by kernel_rfl) rfl (by first | exact ⟨hS.blkCell 0 rfl 0 rfl, hS.blkCell 0 rfl 1 rfl⟩ | exact ⟨hS.blkCell 1 rfl 0 rfl, hS.blkCell 1 rfl 1 rfl⟩ | exact ⟨hS.blkCell 2 rfl 0 rfl, hS.blkCell 2 rfl 1 rfl⟩ | exact ⟨hS.blkCell 3 rfl 0 rfl, hS.blkCell 3 rfl 1 rfl⟩) _ _ rfl _ _ rfl _ (fun w hS => hS.1) (fun _ _ _ h => h) ?_) | (refine rg_load 4 rfl (by kernel_rfl) rfl (by first | exact ⟨hS.blkCell 0 rfl 0 rfl, hS.blkCell 0 rfl 1 rfl⟩ | exact ⟨hS.blkCell 1 rfl 0 rfl, hS.blkCell 1 rfl 1 rfl⟩ | exact ⟨hS.blkCell 2 rfl 0 rfl, hS.blkCell 2 rfl 1 rfl⟩ | exact ⟨hS.blkCell 3 rfl 0 rfl, hS.blkCell 3 rfl 1 rfl⟩) _ _ rfl _ _ rfl _ (fun w hS => hS.2) (fun _ _ _ h => h) ?_)); (try simp only [Act.put, List.setIfInBounds_toArray, List.set_cons_zero, List.set_cons_succ]))
        ((first | (refine rg_load 11 rfl (by kernel_rfl) rfl (by first | exact ⟨hS.blkCell 0 rfl 0 rfl, hS.blkCell 0 rfl 1 rfl⟩ | exact ⟨hS.blkCell 1 rfl 0 rfl, hS.blkCell 1 rfl 1 rfl⟩ | exact ⟨hS.blkCell 2 rfl 0 rfl, hS.blkCell 2 rfl 1 rfl⟩ | exact ⟨hS.blkCell 3 rfl 0 rfl, hS.blkCell 3 rfl 1 rfl⟩) _ _ rfl _ _ rfl _ (fun w hS => hS.1) (fun _ _ _ h => h) ?_) | (refine rg_load 11 rfl (by kernel_rfl) rfl (by first | exact ⟨hS.blkCell 0 rfl 0 rfl, hS.blkCell 0 rfl 1 rfl⟩ | exact ⟨hS.blkCell 1 rfl 0 rfl, hS.blkCell 1 rfl 1 rfl⟩ | exact ⟨hS.blkCell 2 rfl 0 rfl, hS.blkCell 2 rfl 1 rfl⟩ | exact ⟨hS.blkCell 3 rfl 0 rfl, hS.blkCell 3 rfl 1 rfl⟩) _ _ rfl _ _ rfl _ (fun w hS => hS.2) (fun _ _ _ h => h) ?_)); (try simp only [Act.put, List.setIfInBounds_toArray, List.set_cons_zero, List.set_cons_succ]))
        (refine rg_step 5 rfl (by kernel_rfl) (fun K' hK => ?_); go_wp2_with (first | (go_at_call 128; refine (Clone12_spec hS.hI (by first | exact hS.srcRow (i := 1) rfl | exact hS.srcRow (i := 2) rfl) hl0 hlc Hxl.out hone (by omega)).mono ?_; rintro e w' ⟨na, nc, rfl, hn⟩; replace hS := hS.pure1 hn; clear hn) | (go_at_call 128; refine (Clone12_spec hS.hI (by first | exact hS.srcRow (i := 2) rfl | exact hS.srcRow (i := 3) rfl) ho0 hoc Hxo.out hono (by omega)).mono ?_; rintro e w' ⟨ma, mc, rfl, hn⟩; replace hS := hS.pure1 hn; clear hn) | ((with_reducible refine gL_box ?_); (refine sL_box hS rfl _ _ rfl _ (by go_simp; first | exact rfl | exact ⟨rfl, rfl⟩) ?_; clear hS; intro tb w' htb hS))); (try with_reducible refine rg_back ?_); refine hK.out _ _ (fun _ => by first | exact ⟨hS.blkCell 0 rfl 0 rfl, hS.blkCell 0 rfl 1 rfl⟩ | exact ⟨hS.blkCell 1 rfl 0 rfl, hS.blkCell 1 rfl 1 rfl⟩ | exact ⟨hS.blkCell 2 rfl 0 rfl, hS.blkCell 2 rfl 1 rfl⟩ | exact ⟨hS.blkCell 3 rfl 0 rfl, hS.blkCell 3 rfl 1 rfl⟩) ?_; clear hK; clear K'; (try simp only [Act.put, List.setIfInBounds_toArray, List.set_cons_zero, List.set_cons_succ]))
        (refine rg_pureS (v := ?v6b1x9) 6 rfl (by kernel_rfl) (fun _ _ _ h => h) rfl (by first | exact ⟨hS.blkCell 0 rfl 0 rfl, hS.blkCell 0 rfl 1 rfl⟩ | exact ⟨hS.blkCell 1 rfl 0 rfl, hS.blkCell 1 rfl 1 rfl⟩ | exact ⟨hS.blkCell 2 rfl 0 rfl, hS.blkCell 2 rfl 1 rfl⟩ | exact ⟨hS.blkCell 3 rfl 0 rfl, hS.blkCell 3 rfl 1 rfl⟩) ?hy6b1x9 ?rest6b1x9; (case hy6b1x9 => (intro w; go_simp; try with_reducible rfl)); (try simp only [Act.put, List.setIfInBounds_toArray, List.set_cons_zero, List.set_cons_succ]))
        (refine rg_step 12 rfl (by kernel_rfl) (fun K' hK => ?_); go_wp2_with (first | (go_at_call 128; refine (Clone12_spec hS.hI (by first | exact hS.srcRow (i := 1) rfl | exact hS.srcRow (i := 2) rfl) hl0 hlc Hxl.out hone (by omega)).mono ?_; rintro e w' ⟨na, nc, rfl, hn⟩; replace hS := hS.pure1 hn; clear hn) | (go_at_call 128; refine (Clone12_spec hS.hI (by first | exact hS.srcRow (i := 2) rfl | exact hS.srcRow (i := 3) rfl) ho0 hoc Hxo.out hono (by omega)).mono ?_; rintro e w' ⟨ma, mc, rfl, hn⟩; replace hS := hS.pure1 hn; clear hn) | ((with_reducible refine gL_box ?_); (refine sL_box hS rfl _ _ rfl _ (by go_simp; first | exact rfl | exact ⟨rfl, rfl⟩) ?_; clear hS; intro tb w' htb hS))); (try with_reducible refine rg_back ?_); refine hK.out _ _ (fun _ => by first | exact ⟨hS.blkCell 0 rfl 0 rfl, hS.blkCell 0 rfl 1 rfl⟩ | exact ⟨hS.blkCell 1 rfl 0 rfl, hS.blkCell 1 rfl 1 rfl⟩ | exact ⟨hS.blkCell 2 rfl 0 rfl, hS.blkCell 2 rfl 1 rfl⟩ | exact ⟨hS.blkCell 3 rfl 0 rfl, hS.blkCell 3 rfl 1 rfl⟩) ?_; clear hK; clear K'; (try simp only [Act.put, List.setIfInBounds_toArray, List.set_cons_zero, List.set_cons_succ]))
        (refine rg_pureS (v := ?v13b1x10) 13 rfl (by kernel_rfl) (fun _ _ _ h => h) rfl (by first | exact ⟨hS.blkCell 0 rfl 0 rfl, hS.blkCell 0 rfl 1 rfl⟩ | exact ⟨hS.blkCell 1 rfl 0 rfl, hS.blkCell 1 rfl 1 rfl⟩ | exact ⟨hS.blkCell 2 rfl 0 rfl, hS.blkCell 2 rfl 1 rfl⟩ | exact ⟨hS.blkCell 3 rfl 0 rfl, hS.blkCell 3 rfl 1 rfl⟩) ?hy13b1x10 ?rest13b1x10; (case hy13b1x10 => (intro w; go_simp; try with_reducible rfl)); (try simp only [Act.put, List.setIfInBounds_toArray, List.set_cons_zero, List.set_cons_succ]))
        (refine rg_pureS (v := ?v14b1x11) 14 rfl (by kernel_rfl) (fun _ _ _ h => h) rfl (by first | exact ⟨hS.blkCell 0 rfl 0 rfl, hS.blkCell 0 rfl 1 rfl⟩ | exact ⟨hS.blkCell 1 rfl 0 rfl, hS.blkCell 1 rfl 1 rfl⟩ | exact ⟨hS.blkCell 2 rfl 0 rfl, hS.blkCell 2 rfl 1 rfl⟩ | exact ⟨hS.blkCell 3 rfl 0 rfl, hS.blkCell 3 rfl 1 rfl⟩) ?hy14b1x11 ?rest14b1x11; (case hy14b1x11 => (intro w; go_simp; try with_reducible rfl)); (try simp only [Act.put, List.setIfInBounds_toArray, List.set_cons_zero, List.set_cons_succ]))
        (refine rg_step 15 rfl (by kernel_rfl) (fun K' hK => ?_); go_wp2_with (first | (go_at_call 128; refine (Clone12_spec hS.hI (by first | exact hS.srcRow (i := 1) rfl | exact hS.srcRow (i := 2) rfl) hl0 hlc Hxl.out hone (by omega)).mono ?_; rintro e w' ⟨na, nc, rfl, hn⟩; replace hS := hS.pure1 hn; clear hn) | (go_at_call 128; refine (Clone12_spec hS.hI (by first | exact hS.srcRow (i := 2) rfl | exact hS.srcRow (i := 3) rfl) ho0 hoc Hxo.out hono (by omega)).mono ?_; rintro e w' ⟨ma, mc, rfl, hn⟩; replace hS := hS.pure1 hn; clear hn) | ((with_reducible refine gL_box ?_); (refine sL_box hS rfl _ _ rfl _ (by go_simp; first | exact rfl | exact ⟨rfl, rfl⟩) ?_; clear hS; intro tb w' htb hS))); (try with_reducible refine rg_back ?_); refine hK.out _ _ (fun _ => by first | exact ⟨hS.blkCell 0 rfl 0 rfl, hS.blkCell 0 rfl 1 rfl⟩ | exact ⟨hS.blkCell 1 rfl 0 rfl, hS.blkCell 1 rfl 1 rfl⟩ | exact ⟨hS.blkCell 2 rfl 0 rfl, hS.blkCell 2 rfl 1 rfl⟩ | exact ⟨hS.blkCell 3 rfl 0 rfl, hS.blkCell 3 rfl 1 rfl⟩) ?_; clear hK; clear K'; (try simp only [Act.put, List.setIfInBounds_toArray, List.set_cons_zero, List.set_cons_succ]))
        (refine rg_pureS (v := ?v16b1x12) 16 rfl (by kernel_rfl) (fun _ _ _ h => h) rfl (by first | exact ⟨hS.blkCell 0 rfl 0 rfl, hS.blkCell 0 rfl 1 rfl⟩ | exact ⟨hS.blkCell 1 rfl 0 rfl, hS.blkCell 1 rfl 1 rfl⟩ | exact ⟨hS.blkCell 2 rfl 0 rfl, hS.blkCell 2 rfl 1 rfl⟩ | exact ⟨hS.blkCell 3 rfl 0 rfl, hS.blkCell 3 rfl 1 rfl⟩) ?hy16b1x12 ?rest16b1x12; (case hy16b1x12 => (intro w; go_simp; try with_reducible rfl)); (try simp only [Act.put, List.setIfInBounds_toArray, List.set_cons_zero, List.set_cons_succ]))
        refine rg_done (by kernel_rfl) ?_
        first | exact hG na nc ma mc tb _ hS | exact hG na nc ma mc tb _ (hS.perm (List.Perm.cons _ (List.Perm.swap _ _ _)))
      case hc =>
        intro na nc ma mc tb w' hS
        have hst : StkAt I tb s o (stkL tb na ma s.length nc o.length mc xl xo) := ⟨na, ma, nc, mc, xl, xo, rfl, Hl.out, Ho.out⟩
        obtain ⟨L1, hL1⟩ : ∃ L1, L1 = stkL tb na ma s.length nc o.length mc xl xo := ⟨_, rfl⟩
        rw [← hL1] at hS hst
        have hd2 := hdo (Init.left hS.toInit) hst
        unfold DoPost at hd2
        clear hL1 hst hdo
        cases hr : doS c s o with
        | error e =>
          rw [hr] at hd2
          have hne : ¬ e = 0 := by rcases doS_err hr with rfl | rfl <;> decide
          have Hr := Lib.hid hr
          clear hr
          go_wp2_with (first | (go_at_call 129; refine (hd2).mono ?_; rintro e w' ⟨rfl, J, L', hn⟩; replace hS := Nx.call hS hn; clear hn))
          go_ret
          show StkDoPost _ _ _ _ _ _ _
          rw [HR.out, Hr.out]
          exact ⟨rfl, J, hS.dropL⟩
        | ok so =>
          obtain ⟨s', o'⟩ := so
          rw [hr] at hd2
          have hlen := doS_len hk'.out (by omega) hr
          have Hr := Lib.hid hr
          clear hr
          have hlb : s'.length + o'.length ≤ 1000000 := by omega
          clear hlen
          by_cases hgt : s'.length + o'.length > 100
          · have hgi : (100 : Int) < ((s'.length + o'.length : Nat) : Int) := by omega
            obtain ⟨m, hm⟩ : ∃ m : Int, m = ((s'.length + o'.length : Nat) : Int) := ⟨_, rfl⟩
            rw [← hm] at hgi
            have Hm := Lib.hid hm
            clear hm
            go_wp2_with (first | (go_at_call 129; refine (hd2).mono ?_; rintro e w' ⟨rfl, J, L', hn, hst⟩; replace hS := Nx.call hS hn; clear hn; obtain ⟨al1, ao1, cl1, co1, xl1, xo1, rfl, hl1, ho1⟩ := hst) | (go_at_call 50; refine (many_spec hS.hI (hS.blkCell 0 rfl 0 rfl) (hS.blkCell 0 rfl 1 rfl) hlb).mono ?_; rintro e w' ⟨rfl, hn⟩; rw [← Hm.out]; replace hS := hS.pure0 hn; clear hn))
            go_ret
            show StkDoPost _ _ _ _ _ _ _
            rw [HR.out, Hr.out]
            simp only
            rw [if_pos hgt]
            exact ⟨rfl, J, hS.dropL (A := [_, _, _])⟩
          · have hgi : ¬ (100 : Int) < ((s'.length + o'.length : Nat) : Int) := by omega
            obtain ⟨m, hm⟩ : ∃ m : Int, m = ((s'.length + o'.length : Nat) : Int) := ⟨_, rfl⟩
            rw [← hm] at hgi
            have Hm := Lib.hid hm
            have Hgt := Lib.hid hgt
            clear hm hgt
            go_wp2_with (first | (go_at_call 129; refine (hd2).mono ?_; rintro e w' ⟨rfl, J, L', hn, hst⟩; replace hS := Nx.call hS hn; clear hn; obtain ⟨al1, ao1, cl1, co1, xl1, xo1, rfl, hl1, ho1⟩ := hst) | (go_at_call 50; refine (many_spec hS.hI (hS.blkCell 0 rfl 0 rfl) (hS.blkCell 0 rfl 1 rfl) hlb).mono ?_; rintro e w' ⟨rfl, hn⟩; rw [← Hm.out]; replace hS := hS.pure0 hn; clear hn; simp only [List.cons_append, List.nil_append] at hS) | (first | ((with_reducible refine gL_load ?_); first | (refine sL_load hS rfl _ _ rfl _ _ rfl 0 _ _ rfl _ rfl ?_) | (refine sL_load hS rfl _ _ rfl _ _ rfl 1 _ _ rfl _ rfl ?_) | (refine sL_load hS rfl _ _ rfl _ _ rfl 2 _ _ rfl _ rfl ?_) | (refine sL_load hS rfl _ _ rfl _ _ rfl 3 _ _ rfl _ rfl ?_) | (refine sL_load hS rfl _ _ rfl _ _ rfl 4 _ _ rfl _ rfl ?_) | (refine sL_load hS rfl _ _ rfl _ _ rfl 5 _ _ rfl _ rfl ?_) | (refine sL_loadA hS rfl _ _ rfl _ _ rfl 0 _ _ rfl _ rfl rfl ?_) | (refine sL_loadA hS rfl _ _ rfl _ _ rfl 1 _ _ rfl _ rfl rfl ?_) | (refine sL_loadA hS rfl _ _ rfl _ _ rfl 2 _ _ rfl _ rfl rfl ?_) | (refine sL_loadA hS rfl _ _ rfl _ _ rfl 3 _ _ rfl _ rfl rfl ?_) | (refine sL_loadA hS rfl _ _ rfl _ _ rfl 4 _ _ rfl _ rfl rfl ?_) | (refine sL_loadA hS rfl _ _ rfl _ _ rfl 5 _ _ rfl _ rfl rfl ?_)) | ((with_reducible refine gL_store ?_); first | (refine sL_store hS rfl _ _ _ rfl _ _ rfl 0 _ _ rfl _ (by go_simp; first | exact rfl | exact ⟨rfl, rfl⟩) rfl (by simp) ?_; clear hS; intro w' hS; simp only [List.set_cons_zero] at hS) | (refine sL_store hS rfl _ _ _ rfl _ _ rfl 1 _ _ rfl _ (by go_simp; first | exact rfl | exact ⟨rfl, rfl⟩) rfl (by simp) ?_; clear hS; intro w' hS; simp only [List.set_cons_zero, List.set_cons_succ] at hS) | (refine sL_store hS rfl _ _ _ rfl _ _ rfl 2 _ _ rfl _ (by go_simp; first | exact rfl | exact ⟨rfl, rfl⟩) rfl (by simp) ?_; clear hS; intro w' hS; simp only [List.set_cons_zero, List.set_cons_succ] at hS) | (refine sL_store hS rfl _ _ _ rfl _ _ rfl 3 _ _ rfl _ (by go_simp; first | exact rfl | exact ⟨rfl, rfl⟩) rfl (by simp) ?_; clear hS; intro w' hS; simp only [List.set_cons_zero, List.set_cons_succ] at hS) | (refine sL_store hS rfl _ _ _ rfl _ _ rfl 4 _ _ rfl _ (by go_simp; first | exact rfl | exact ⟨rfl, rfl⟩) rfl (by simp) ?_; clear hS; intro w' hS; simp only [List.set_cons_zero, List.set_cons_succ] at hS) | (refine sL_store hS rfl _ _ _ rfl _ _ rfl 5 _ _ rfl _ (by go_simp; first | exact rfl | exact ⟨rfl, rfl⟩) rfl (by simp) ?_; clear hS; intro w' hS; simp only [List.set_cons_zero, List.set_cons_succ] at hS) | (refine sL_storeB hS rfl _ _ _ rfl _ rfl 0 _ _ rfl _ (by go_simp; first | exact rfl | exact ⟨rfl, rfl⟩) (by rfl) (by rfl) (by simp [Value.oneCell']) ?_; clear hS; intro w' hS; simp only [List.set_cons_zero] at hS) | (refine sL_storeB hS rfl _ _ _ rfl _ rfl 1 _ _ rfl _ (by go_simp; first | exact rfl | exact ⟨rfl, rfl⟩) (by rfl) (by rfl) (by simp [Value.oneCell']) ?_; clear hS; intro w' hS; simp only [List.set_cons_zero, List.set_cons_succ] at hS) | (refine sL_storeB hS rfl _ _ _ rfl _ rfl 2 _ _ rfl _ (by go_simp; first | exact rfl | exact ⟨rfl, rfl⟩) (by rfl) (by rfl) (by simp [Value.oneCell']) ?_; clear hS; intro w' hS; simp only [List.set_cons_zero, List.set_cons_succ] at hS) | (refine sL_storeB hS rfl _ _ _ rfl _ rfl 3 _ _ rfl _ (by go_simp; first | exact rfl | exact ⟨rfl, rfl⟩) (by rfl) (by rfl) (by simp [Value.oneCell']) ?_; clear hS; intro w' hS; simp only [List.set_cons_zero, List.set_cons_succ] at hS) | (refine sL_storeB hS rfl _ _ _ rfl _ rfl 4 _ _ rfl _ (by go_simp; first | exact rfl | exact ⟨rfl, rfl⟩) (by rfl) (by rfl) (by simp [Value.oneCell']) ?_; clear hS; intro w' hS; simp only [List.set_cons_zero, List.set_cons_succ] at hS) | (refine sL_storeB hS rfl _ _ _ rfl _ rfl 5 _ _ rfl _ (by go_simp; first | exact rfl | exact ⟨rfl, rfl⟩) (by rfl) (by rfl) (by simp [Value.oneCell']) ?_; clear hS; intro w' hS; simp only [List.set_cons_zero, List.set_cons_succ] at hS)) | ((with_reducible refine gL_alloc ?_); (refine sL_alloc hS rfl _ rfl ?_; clear hS; intro b w' hb hS)) | ((with_reducible refine gL_box ?_); (refine sL_box hS rfl _ _ rfl _ (by go_simp; first | exact rfl | exact ⟨rfl, rfl⟩) ?_; clear hS; intro b w' hb hS))))
            go_ret
            show StkDoPost _ _ _ _ _ _ _
            rw [HR.out, Hr.out]
            simp only
            rw [if_neg Hgt.out]
            have hS2 := ((hS.dropAt 5 rfl).dropAt 4 rfl).drop.front 2 rfl
            exact ⟨rfl, J, _, hS2, al1, ao1, cl1, co1, xl1, xo1, rfl, hl1, ho1⟩
end Go.Proofs.YtmlgieclkedomaaGreat

namespace Go.Proofs.YtmlgieclkedomaaGreat
open Go Go.RowKit

theorem longB_cons (c : UInt8) (l : Bs) : longB (c :: l) = if l.length < opHead c then none else if l.length < opHead c + (if opHead c > 0 then leN (l.take (opHead c)) else if c ≤ 75 then c.toNat else 0) then none else some (if opHead c > 0 then leN (l.take (opHead c)) else if c ≤ 75 then c.toNat else 0, 1 + opHead c) := rfl
def LongPost (I : Imm) (w : World) (s : Bs) (e : Ending) (w' : World) : Prop :=
  (match longB s with
   | none => e = .returned (.tuple #[.int .i64 (-1), .int .i64 0])
   | some (d, a) => e = .returned (.tuple #[.int .i64 (d : Nat), .int .i64 (a : Nat)])) ∧ Nx [] I w I [] w'

set_option maxRecDepth 10000 in
theorem long0_spec {I : Imm} {w : World} (hI : I.Holds w) {v : Value} {c : UInt8} {l : Bs} (h : RdB I v (c :: l)) (hl : l.length ≤ 1000000) (hh : opHead c = 0) :
    Calls Tryz.prog 71 #[v] w (LongPost I w (c :: l)) := by
  have hS := Nx.nil hI
  obtain ⟨va, vc, rfl, -, -, -⟩ := h.ex
  obtain ⟨-, hcap, g, j, rfl, hat⟩ := RdB.at h (by simp)
  have hc0 : hat = hat := rfl
  have hcell : ∀ {W : World}, I.Holds W → W.cell? ⟨g, j, none⟩ = some (bv c) := fun hI => by have := hat.cell hI 0 (u := bv c) rfl; simpa using this
  obtain ⟨n, hn⟩ : ∃ n, n = (c :: l).length := ⟨_, rfl⟩
  rw [← hn] at hcap ⊢
  have hn1 : 1 ≤ n := by rw [hn]; simp
  have hlon : longB (c :: l) = if n < 1 + (if c ≤ 75 then c.toNat else 0) then none else some (if c ≤ 75 then c.toNat else 0, 1) := by
    rw [longB_cons, hh, if_neg (Nat.not_lt_zero _)]
    simp only [gt_iff_lt, Nat.lt_irrefl, if_false, Nat.zero_add, Nat.add_zero]
    generalize (if c ≤ 75 then c.toNat else 0) = d
    rw [hn, List.length_cons]
    by_cases hx : l.length < d
    · rw [if_pos hx, if_pos (by omega)]
    · rw [if_neg hx, if_neg (by omega)]
  have Hlon := Lib.hid hlon
  have Hh := Lib.hid hh
  have hn1i : ¬ (n : Int) < 1 := by omega
  have hn0i : (0 : Int) < n := by omega
  have hn0 : 0 < n := by omega
  clear hlon hn hh h hc0 hat
  go_enter Tryz.func71, Tryz.ntmps71
  go_wp2
  replace hS := hS.drew
  refine rg_start (fun w => w.cell? ⟨g, j, none⟩ = some (bv c)) [5, 6, 7] (by kernel_rfl) ?_
  -- P0 P1 P3 P4 L2 L5 S6 P7 P8
  (refine rg_pure (v := ?v0u1) 0 rfl (by kernel_rfl) (fun _ _ _ h => h) rfl ?hy0u1 ?rest0u1; (case hy0u1 => (intro w; go_simp; try with_reducible rfl)); (try simp only [Act.put, List.setIfInBounds_toArray, List.set_cons_zero, List.set_cons_succ]))
  (refine rg_pure (v := ?v1u1) 1 rfl (by kernel_rfl) (fun _ _ _ h => h) rfl ?hy1u1 ?rest1u1; (case hy1u1 => (intro w; go_simp; try with_reducible rfl)); (try simp only [Act.put, List.setIfInBounds_toArray, List.set_cons_zero, List.set_cons_succ]))
  (refine rg_pure (v := ?v3u1) 3 rfl (by kernel_rfl) (fun _ _ _ h => h) rfl ?hy3u1 ?rest3u1; (case hy3u1 => (intro w; go_simp; try with_reducible rfl)); (try simp only [Act.put, List.setIfInBounds_toArray, List.set_cons_zero, List.set_cons_succ]))
  (refine rg_pure (v := ?v4u1) 4 rfl (by kernel_rfl) (fun _ _ _ h => h) rfl ?hy4u1 ?rest4u1; (case hy4u1 => (intro w; go_simp; try with_reducible rfl)); (try simp only [Act.put, List.setIfInBounds_toArray, List.set_cons_zero, List.set_cons_succ]))
  ((first | (refine rg_load 2 rfl (by kernel_rfl) rfl (by exact hcell hS.hI) _ _ rfl _ _ rfl _ (fun w hS => hS) (fun _ _ _ h => h) ?_)); (try simp only [Act.put, List.setIfInBounds_toArray, List.set_cons_zero, List.set_cons_succ]))
  ((first | (refine rg_load 5 rfl (by kernel_rfl) rfl (by exact hcell hS.hI) _ _ rfl _ _ rfl _ (fun w hS => hS) (fun _ _ _ h => h) ?_)); (try simp only [Act.put, List.setIfInBounds_toArray, List.set_cons_zero, List.set_cons_succ]))
  (refine rg_step 6 rfl (by kernel_rfl) (fun K' hK => ?_); go_wp2_with (first | (go_at_call 54; refine (head_spec hS.hI).mono ?_; rintro e w' ⟨rfl, rfl⟩; rw [Hh.out])); (try with_reducible refine rg_back ?_); refine hK.out _ _ (fun _ => by exact hcell hS.hI) ?_; clear hK; clear K'; (try simp only [Act.put, List.setIfInBounds_toArray, List.set_cons_zero, List.set_cons_succ]))
  (refine rg_pureS (v := ?v7u1) 7 rfl (by kernel_rfl) (fun _ _ _ h => h) rfl (by exact hcell hS.hI) ?hy7u1 ?rest7u1; (case hy7u1 => (intro w; go_simp; try with_reducible rfl)); (try simp only [Act.put, List.setIfInBounds_toArray, List.set_cons_zero, List.set_cons_succ]))
  (refine rg_pure (v := ?v8u1) 8 rfl (by kernel_rfl) (fun _ _ _ h => h) rfl ?hy8u1 ?rest8u1; (case hy8u1 => (intro w; go_simp; try with_reducible rfl)); (try simp only [Act.put, List.setIfInBounds_toArray, List.set_cons_zero, List.set_cons_succ]))
  refine rg_done (by kernel_rfl) ?_
  by_cases h75 : c ≤ 75
  · obtain ⟨m, hm⟩ : ∃ m : Nat, m = c.toNat := ⟨_, rfl⟩
    have hm75 : (m : Int) ≤ 75 := by have : c.toNat ≤ 75 := h75; omega
    have Hm := Lib.hid hm
    have hbv : bv c = .int .u8 (m : Nat) := by rw [hm]
    rw [hbv]
    have H75 := Lib.hid h75
    clear hm h75 hbv hcell
    by_cases hlen : n < 1 + m
    · have hli : (n : Int) < 1 + m := by omega
      go_wp2
      go_ret2
      show LongPost _ _ _ _ _
      unfold LongPost
      rw [Hlon.out, if_pos H75.out, ← Hm.out, if_pos hlen]
      exact ⟨rfl, hS⟩
    · have hli : ¬ (n : Int) < 1 + m := by omega
      go_wp2
      go_ret2
      show LongPost _ _ _ _ _
      unfold LongPost
      rw [Hlon.out, if_pos H75.out, ← Hm.out, if_neg hlen]
      exact ⟨rfl, hS⟩
  · obtain ⟨m, hm⟩ : ∃ m : Nat, m = c.toNat := ⟨_, rfl⟩
    have hm75 : ¬ (m : Int) ≤ 75 := by have : ¬ c.toNat ≤ 75 := h75; omega
    have hbv : bv c = .int .u8 (m : Nat) := by rw [hm]
    rw [hbv]
    have H75 := Lib.hid h75
    clear hm h75 hbv hcell
    go_wp2
    go_ret2
    show LongPost _ _ _ _ _
    unfold LongPost
    rw [Hlon.out, if_neg H75.out, if_neg (by omega)]
    exact ⟨rfl, hS⟩
set_option maxRecDepth 10000 in
set_option maxHeartbeats 1000000 in
theorem longH_spec {I : Imm} {w : World} (hI : I.Holds w) {v : Value} {c : UInt8} {l : Bs} (h : RdB I v (c :: l)) (hl : l.length ≤ 1000000) {k : Nat} (hh : opHead c = k) (hk : k = 1 ∨ k = 2) :
    Calls Tryz.prog 71 #[v] w (LongPost I w (c :: l)) := by
  have hS := Nx.nil hI
  obtain ⟨va, vc, rfl, -, -, -⟩ := h.ex
  obtain ⟨-, hcap, g, j, rfl, hat⟩ := RdB.at h (by simp)
  have hcell : ∀ {W : World}, I.Holds W → W.cell? ⟨g, j, none⟩ = some (bv c) := fun hI => by have := hat.cell hI 0 (u := bv c) rfl; simpa using this
  have hcl : ∀ {W : World}, I.Holds W → ∀ i (hi : i < l.length), W.cell? ⟨g, j + 1 + i, none⟩ = some (bv l[i]) := fun hI i hi => by
    have := hat.cell hI (i + 1) (u := bv l[i]) (by simp [bvs, hi])
    rw [show j + 1 + i = j + (i + 1) by omega]; exact this
  obtain ⟨n, hn⟩ : ∃ n, n = (c :: l).length := ⟨_, rfl⟩
  rw [← hn] at hcap ⊢
  have hn1 : n = l.length + 1 := by rw [hn]; simp
  have hlon : longB (c :: l) = if n < 1 + k then none else if n < 1 + k + leN (l.take k) then none else some (leN (l.take k), 1 + k) := by
    have hkp : k > 0 := by omega
    rw [longB_cons, hh]
    simp only [hkp, if_true]
    by_cases hx : l.length < k
    · rw [if_pos hx, if_pos (by omega)]
    · rw [if_neg hx, if_neg (show ¬ n < 1 + k by omega)]
      by_cases hy : l.length < k + leN (l.take k)
      · rw [if_pos hy, if_pos (by omega)]
      · rw [if_neg hy, if_neg (by omega)]
  have Hlon := Lib.hid hlon
  have Hh := Lib.hid hh
  have Hn1 := Lib.hid hn1
  have hn0i : (0 : Int) < n := by omega
  have hn0 : 0 < n := by omega
  have hk0 : (0 : Int) < k := by omega
  have hk0n : 0 < k := by omega
  clear hlon hn hh h hn1 hat
  go_enter Tryz.func71, Tryz.ntmps71
  go_wp2
  replace hS := hS.drew
  refine rg_start (fun w => w.cell? ⟨g, j, none⟩ = some (bv c)) [5, 6, 7] (by kernel_rfl) ?_
  -- P0 P1 P3 P4 L2 L5 S6 P7 P8
  (refine rg_pure (v := ?v0u2) 0 rfl (by kernel_rfl) (fun _ _ _ h => h) rfl ?hy0u2 ?rest0u2; (case hy0u2 => (intro w; go_simp; try with_reducible rfl)); (try simp only [Act.put, List.setIfInBounds_toArray, List.set_cons_zero, List.set_cons_succ]))
  (refine rg_pure (v := ?v1u2) 1 rfl (by kernel_rfl) (fun _ _ _ h => h) rfl ?hy1u2 ?rest1u2; (case hy1u2 => (intro w; go_simp; try with_reducible rfl)); (try simp only [Act.put, List.setIfInBounds_toArray, List.set_cons_zero, List.set_cons_succ]))
  (refine rg_pure (v := ?v3u2) 3 rfl (by kernel_rfl) (fun _ _ _ h => h) rfl ?hy3u2 ?rest3u2; (case hy3u2 => (intro w; go_simp; try with_reducible rfl)); (try simp only [Act.put, List.setIfInBounds_toArray, List.set_cons_zero, List.set_cons_succ]))
  (refine rg_pure (v := ?v4u2) 4 rfl (by kernel_rfl) (fun _ _ _ h => h) rfl ?hy4u2 ?rest4u2; (case hy4u2 => (intro w; go_simp; try with_reducible rfl)); (try simp only [Act.put, List.setIfInBounds_toArray, List.set_cons_zero, List.set_cons_succ]))
  ((first | (refine rg_load 2 rfl (by kernel_rfl) rfl (by exact hcell hS.hI) _ _ rfl _ _ rfl _ (fun w hS => hS) (fun _ _ _ h => h) ?_)); (try simp only [Act.put, List.setIfInBounds_toArray, List.set_cons_zero, List.set_cons_succ]))
  ((first | (refine rg_load 5 rfl (by kernel_rfl) rfl (by exact hcell hS.hI) _ _ rfl _ _ rfl _ (fun w hS => hS) (fun _ _ _ h => h) ?_)); (try simp only [Act.put, List.setIfInBounds_toArray, List.set_cons_zero, List.set_cons_succ]))
  (refine rg_step 6 rfl (by kernel_rfl) (fun K' hK => ?_); go_wp2_with (first | (go_at_call 54; refine (head_spec hS.hI).mono ?_; rintro e w' ⟨rfl, rfl⟩; rw [Hh.out])); (try with_reducible refine rg_back ?_); refine hK.out _ _ (fun _ => by exact hcell hS.hI) ?_; clear hK; clear K'; (try simp only [Act.put, List.setIfInBounds_toArray, List.set_cons_zero, List.set_cons_succ]))
  (refine rg_pureS (v := ?v7u2) 7 rfl (by kernel_rfl) (fun _ _ _ h => h) rfl (by exact hcell hS.hI) ?hy7u2 ?rest7u2; (case hy7u2 => (intro w; go_simp; try with_reducible rfl)); (try simp only [Act.put, List.setIfInBounds_toArray, List.set_cons_zero, List.set_cons_succ]))
  (refine rg_pure (v := ?v8u2) 8 rfl (by kernel_rfl) (fun _ _ _ h => h) rfl ?hy8u2 ?rest8u2; (case hy8u2 => (intro w; go_simp; try with_reducible rfl)); (try simp only [Act.put, List.setIfInBounds_toArray, List.set_cons_zero, List.set_cons_succ]))
  refine rg_done (by kernel_rfl) ?_
  by_cases hlen : n < 1 + k
  · have hli : (n : Int) < 1 + k := by omega
    go_wp2
    go_ret2
    show LongPost _ _ _ _ _
    unfold LongPost
    rw [Hlon.out, if_pos hlen]
    exact ⟨rfl, hS⟩
  · have hli : ¬ (n : Int) < 1 + k := by omega
    have hadr : adrop (some ⟨g, j, none⟩) 1 vc 1 = some ⟨g, j + 1, none⟩ := by unfold adrop; rw [if_neg (by omega)]; rfl
    have Hadr := Lib.hid hadr
    have hkn : 1 + k ≤ n := by omega
    clear hadr
    go_wp2_with (first | (((with_reducible refine gL_slice ?_); refine sL_slice rfl _ _ _ _ _ rfl _ _ _ rfl (1) (1 + k) (vc) (by first | rfl | (show _ = _; omega) | (show _ = _; simp; done) | (show _ = _; simp; omega)) (by first | rfl | (show _ = _; omega) | (show _ = _; simp; done) | (show _ = _; simp; omega)) (by first | rfl | (show _ = _; omega) | (show _ = _; simp; done) | (show _ = _; simp; omega)) (by omega) (by omega) (by omega) (by simp) ?_; rw [show (1 + k) - (1) = k by omega, show (vc) - (1) = vc - 1 by omega]); rw [Hadr.out]))
    go_loopw [2, 28] (fun v2 v28 wr => ∃ i, i ≤ k ∧ v28 = .int .i64 (i : Nat) ∧ v2 = .int .i64 (leN ((l.take k).take i) : Nat) ∧ Nx [] I w I [] wr) (fun _ v28 _ => k - (intOf v28).toNat)
    case atStart => exact ⟨0, by omega, rfl, rfl, hS⟩
    case round =>
      clear hS
      obtain ⟨i, hi, rfl, rfl, hS⟩ := hrel
      by_cases hlt : i < k
      · have hil : i < l.length := by have := Hn1.out; omega
        have hce := hcl hS.hI i hil
        obtain ⟨d, hd⟩ : ∃ d, d = l[i] := ⟨_, rfl⟩
        rw [← hd] at hce
        have hst := leN_take_succ (l.take k) i d (by rw [List.getElem?_take, if_pos hlt, List.getElem?_eq_getElem hil, hd])
        have hx := leN_lt ((l.take k).take i)
        have hxl : ((l.take k).take i).length = i := by simp; omega
        rw [hxl] at hx
        obtain ⟨x, hxe⟩ : ∃ x, x = leN ((l.take k).take i) := ⟨_, rfl⟩
        rw [← hxe] at hx hst ⊢
        have Hst := Lib.hid hst
        have hdl := d.toNat_lt
        obtain ⟨y, hy⟩ : ∃ y, y = d.toNat := ⟨_, rfl⟩
        have hbv : bv d = .int .u8 (y : Nat) := by rw [hy]
        rw [hbv] at hce
        rw [← hy] at hdl
        have Hy := Lib.hid hy
        clear hst hxe hd hxl hy hbv hcl hcell hil
        obtain rfl | rfl : i = 0 ∨ i = 1 := by omega
        · have hor := or_join64 0 (by decide) x y (by omega) (by omega) (by omega) (by omega) (by omega)
          go_wp2_with ((with_reducible refine gL_load ?_); refine sL_loadC rfl _ _ rfl _ _ rfl _ hce ?_)
          refine ⟨⟨1, hlt, rfl, ?_, hS⟩, ?_⟩
          · rw [Hst.out, ← Hy.out]; simp
          · simp [intOf]; omega
        · have hor := or_join64 8 (by decide) x (y * 256) (by omega) (by omega) (by omega) (by omega) (by omega)
          go_wp2_with ((with_reducible refine gL_load ?_); refine sL_loadC rfl _ _ rfl _ _ rfl _ hce ?_)
          refine ⟨⟨2, hlt, rfl, ?_, hS⟩, ?_⟩
          · rw [Hst.out, ← Hy.out]; simp
          · simp [intOf]; omega
      · obtain rfl : i = k := by omega
        rw [List.take_take, Nat.min_self]
        have hd := leN_lt (l.take i)
        rw [List.length_take] at hd
        obtain ⟨d, hde⟩ : ∃ d, d = leN (l.take i) := ⟨_, rfl⟩
        have hd2 : d < 65536 := by
          rw [hde]
          refine Nat.lt_of_lt_of_le hd ?_
          rcases hk with rfl | rfl
          · exact Nat.le_trans (Nat.pow_le_pow_right (by decide) (Nat.min_le_left _ _)) (by decide)
          · exact Nat.le_trans (Nat.pow_le_pow_right (by decide) (Nat.min_le_left _ _)) (by decide)
        rw [← hde]
        have Hde := Lib.hid hde
        clear hde hd
        by_cases hlen2 : n < 1 + i + d
        · have hli2 : (n : Int) < 1 + i + d := by omega
          go_wp2
          go_ret2
          show LongPost _ _ _ _ _
          unfold LongPost
          rw [Hlon.out, if_neg (by omega), ← Hde.out, if_pos hlen2]
          exact ⟨rfl, hS⟩
        · have hli2 : ¬ (n : Int) < 1 + i + d := by omega
          go_wp2
          go_ret2
          show LongPost _ _ _ _ _
          unfold LongPost
          rw [Hlon.out, if_neg (by omega), ← Hde.out, if_neg hlen2]
          exact ⟨by simp, hS⟩
theorem long_spec {I : Imm} {w : World} (hI : I.Holds w) {v : Value} {c : UInt8} {l : Bs} (h : RdB I v (c :: l)) (hl : l.length ≤ 1000000) :
    Calls Tryz.prog 71 #[v] w (LongPost I w (c :: l)) := by
  have h3 : opHead c = 0 ∨ opHead c = 1 ∨ opHead c = 2 := by have := opHead_le c; omega
  rcases h3 with h0 | h1 | h2
  · exact long0_spec hI h hl h0
  · exact longH_spec hI h hl h1 (.inl rfl)
  · exact longH_spec hI h hl h2 (.inr rfl)
end Go.Proofs.YtmlgieclkedomaaGreat

namespace Go.Proofs.YtmlgieclkedomaaGreat
open Go Go.RowKit

/-- a round, as the iterator sees it; it hands over values that stand for x -/
def YieldsR {α : Type} (P : Program) (l : Nat) (R : α → Imm → Array Value → Prop) (xs : List α) (Inv Bad : List α → Imm → List Item → Prop) : Prop :=
  ∀ pre x I B w args, (pre ++ [x]) <+: xs → R x I args → Init I B w → Inv pre I B → YieldAt Fence.wide 0 P l args w fun e w' =>
    (e = .returned (.bool true) ∧ ∃ J B', Nx B I w J B' w' ∧ Inv (pre ++ [x]) J B') ∨ (e = .returned (.bool false) ∧ ∃ J B', Nx B I w J B' w' ∧ Bad (pre ++ [x]) J B')
def EmitsR {α : Type} (P : Program) (f : Nat) (lb : Array Value) (R : α → Imm → Array Value → Prop) (I : Imm) (w : World) (Lit : List Item) (xs : List α) : Prop :=
  ∀ (l : Nat) (Inv Bad : List α → Imm → List Item → Prop) (B : List Item), (∀ pre I J B, I.Le J → Inv pre I B → Inv pre J B) → YieldsR P l R xs Inv Bad → Init I (Lit ++ B) w → Inv [] I B →
    CallsIn Fence.wide 0 P f (#[.func (.yield l) #[] #[]] ++ lb) w fun e w' => (∃ v, e = .returned v) ∧
      ∃ J B', Nx (Lit ++ B) I w J B' w' ∧ (Inv xs J B' ∨ ∃ pre, pre <+: xs ∧ Bad pre J B')
theorem YieldsR.at {α : Type} {P : Program} {l : Nat} {R : α → Imm → Array Value → Prop} {xs : List α} {Inv Bad : List α → Imm → List Item → Prop} (h : YieldsR P l R xs Inv Bad) {L0 I0 w0 I Lit B w} (hS : Nx L0 I0 w0 I (Lit ++ B) w)
    {pre : List α} (x : α) (hx : (pre ++ [x]) <+: xs) (hI : Inv pre I B) {args : Array Value} (ha : R x I args) {o : Oper} {a : Act} {next : Act → World → Prop} {Q : Exit → Act → World → Prop}
    (hgo : ∀ J B' w', Nx L0 I0 w0 J (Lit ++ B') w' → I.Le J → Inv (pre ++ [x]) J B' → next (a.put o.dst (.bool true)) w')
    (hno : ∀ J B' w', Nx L0 I0 w0 J (Lit ++ B') w' → I.Le J → Bad (pre ++ [x]) J B' → next (a.put o.dst (.bool false)) w') :
    o.uponIn Fence.wide 0 P a next Q ((Instr.yield l args).run P w) := by
  obtain ⟨fn, tmps, assign, body, hy, hR⟩ := h pre x I B w args hx ha (Init.right hS.toInit) hI
  rw [hy]
  refine ⟨fun h => by simp [Fence.wide] at h, hR.mono ?_⟩
  rintro e w' (⟨rfl, J, B', hn, hi⟩ | ⟨rfl, J, B', hn, hb⟩)
  · exact hgo J B' w' (hS.callTail hn) (hn.le hS.hI) hi
  · exact hno J B' w' (hS.callTail hn) (hn.le hS.hI) hb

theorem wpIn_rangeR {α : Type} {P : Program} {g : Operand} {ps : Array Tmp} {assign body : Code} {Q : Exit → Act → World → Prop} {a : Act} {w w0 : World} {L0 : List Item} {I0 I : Imm}
    {gf : Nat} {lb : Array Value} (hg : a.eval g = .func (.func gf) #[] lb) (eg : ∀ args w, (callFunc gf args).run P w = .ok (.enter gf args) w)
    {R : α → Imm → Array Value → Prop} {Lit L : List Item} {xs : List α} (hS : Nx L0 I0 w0 I (Lit ++ L) w) (hseq : ∀ w', Nx L0 I0 w0 I (Lit ++ L) w' → EmitsR P gf lb R I w' Lit xs) (hps : ∀ x I args, R x I args → args.size = ps.size)
    (Inv : List α → Imm → List Item → Prop) (Bad : Code → List α → Imm → List Item → Prop) (hmono : ∀ pre I J B, I.Le J → Inv pre I B → Inv pre J B) (h0 : Inv [] I L)
    (hround : ∀ (l : Nat) (pre : List α) (x : α) (I : Imm) (B : List Item) (w : World) (args : Array Value), (pre ++ [x]) <+: xs → R x I args → Init I B w → Inv pre I B →
      assign.wpIn (Fence.wide.inRound l) 0 P (Exit.then (fun a1 w1 => ∃ J B', Nx B I w J B' w1 ∧ ∀ w2, Init J B' w2 → body.wpIn (Fence.wide.inRound l) 0 P (roundPostN Inv Bad (pre ++ [x]) J B' w2) a1 w2) (fun _ _ _ => False))
        { tmps := (ps.zip args).foldl (fun t (p, v) => t.setIfInBounds p v) a.tmps, defers := [] } w)
    (hdone : ∀ (D : Nat) (J : Imm) (B' : List Item) (w' : World), Nx L0 I0 w0 J (.obj D (.deferred (some [])) :: B') w' → Inv xs J B' →
      Q .normal { a with defers := { target := .collected D, args := #[] } :: a.defers } w')
    (hstop : ∀ (D : Nat) (c : Code) (pre : List α) (J : Imm) (B' : List Item) (w' : World), Nx L0 I0 w0 J (.obj D (.deferred (some [])) :: B') w' → pre <+: xs → Bad c pre J B' →
      c.wpIn Fence.wide 0 P Q { a with defers := { target := .collected D, args := #[] } :: a.defers } w') :
    (Code.rangeFunc g ps assign body).wpIn Fence.wide 0 P Q a w := by
  refine wpIn_rangeFunc ?_
  intro fn hfn
  obtain ⟨rec, hrec⟩ : ∃ rec : LoopState → Option Code → Loop, rec = fun st pe => { state := st, pending := pe, fn, tmps := a.tmps, params := ps, assign, body, defers := w.heap.size } := ⟨_, rfl⟩
  obtain ⟨W1, hW1⟩ : ∃ W1, (w.alloc (.deferred (some []))).alloc (.loop (rec .ready none)) = W1 := ⟨_, rfl⟩
  have hS1 := (hS.allocObj (.deferred (some []))).allocObj (.loop (rec .ready none))
  rw [hW1, World.size_alloc] at hS1
  obtain ⟨D, hD⟩ : ∃ D, D = w.heap.size := ⟨_, rfl⟩
  obtain ⟨l, hl⟩ : ∃ l, l = w.heap.size + 1 := ⟨_, rfl⟩
  rw [← hl, ← hD] at hS1
  have hpL : ∀ (Lx Lb : List Item) (x y : Item), (x :: y :: (Lx ++ Lb)).Perm (Lx ++ (x :: y :: Lb)) := fun Lx Lb x y =>
    (List.perm_append_comm (l₁ := [x, y]) (l₂ := Lx ++ Lb)).trans (by rw [List.append_assoc]; exact List.Perm.append_left Lx (List.perm_append_comm (l₁ := Lb) (l₂ := [x, y])))
  have hS2 := hS1.perm (hpL Lit L _ _)
  refine ⟨l, [{ target := .collected D, args := #[] }], W1, { target := .fn (.func gf) lb, args := #[.func (.yield l) #[] #[]] }, W1, gf,
    #[.func (.yield l) #[] #[]] ++ lb, W1, ?_, ?_, ?_, ?_, fun h => by simp [Fence.wide] at h, ?_⟩
  · rw [hl, hD, ← hW1, hrec]; exact run_enterLoop_outer _ _ _ _ _
  · simp only [resolve, hg]
    simp [go_sem]
  · intro f' hf'; trivial
  · simp [invoke, go_sem, eg]
  · have hnx1 : Nx L0 I0 w0 I (Lit ++ L) W1 := hS1.drop.drop
    refine (hseq W1 hnx1 l
      (fun pre I B => ∃ B1, B = .obj l (.loop (rec .ready none)) :: .obj D (.deferred (some [])) :: B1 ∧ Inv pre I B1)
      (fun pre I B => ∃ c B1, B = .obj l (.loop (rec .done (some c))) :: .obj D (.deferred (some [])) :: B1 ∧ Bad c pre I B1)
      (.obj l (.loop (rec .ready none)) :: .obj D (.deferred (some [])) :: L) (fun pre I J B hle h => h.elim fun B1 h => ⟨B1, h.1, hmono pre I J B1 hle h.2⟩) ?_ hS2.toInit ⟨L, rfl, h0⟩).mono ?_
    · -- one round
      rintro pre x I B w args hpre hargs hin ⟨B1, rfl, hInv⟩
      have hl0 : w.heap[l]? = some (.loop (rec .ready none)) := hin.holds (.obj l _) (by simp)
      have hy := run_yield (P := P) (args := args) hl0 (by rw [hrec]; exact hps x I args hargs)
      rw [hrec] at hy
      have hinB : Init I B1 w := Init.right (L := [_, _]) hin
      refine ⟨fn, _, assign, body, hy, roundIn_of_wpIn hfn (wpIn_mono (hround l pre x I B1 w args hpre hargs hinB hInv) ?_)⟩
      clear hy
      rintro e a1 w1 he
      cases e with
      | normal =>
        obtain ⟨J, B', hnx, hbody⟩ := he
        have hf1 := Nx.call (L1 := B1) (L2 := [.obj l (.loop (rec .ready none)), .obj D (.deferred (some []))])
          (hin.nx.perm (List.perm_append_comm (l₁ := [_, _]) (l₂ := B1))) hnx
        have hf2 := hf1.perm (List.perm_append_comm (l₁ := B') (l₂ := [.obj l (.loop (rec .ready none)), .obj D (.deferred (some []))]))
        have hl1 : w1.heap[l]? = some (.loop (rec .ready none)) := hf2.get (i := 0) rfl
        refine ⟨_, run_beginRound hl1 (by rw [hrec]), ?_⟩
        have hf3 := hf2.putObj (i := 0) rfl (.loop { rec .ready none with state := .busy })
        simp only [List.cons_append, List.nil_append, List.set_cons_zero] at hf3
        refine wpIn_mono (hbody _ (Init.right (L := [_, _]) hf3.toInit)) ?_
        have fin : ∀ (jump : Option Code) (K : Imm) (B'' : List Item) (w3 : World), Nx B' J (w1.putObj l (.loop { rec .ready none with state := .busy })) K B'' w3 →
            (Instr.endRound l jump).run P w3 = .ok (.bool jump.isNone) (w3.putObj l (.loop (rec (if jump.isNone then .ready else .done) jump))) ∧
            Nx (.obj l (.loop (rec .ready none)) :: .obj D (.deferred (some [])) :: B1) I w K (.obj l (.loop (rec (if jump.isNone then .ready else .done) jump)) :: .obj D (.deferred (some [])) :: B'') (w3.putObj l (.loop (rec (if jump.isNone then .ready else .done) jump))) := by
          intro jump K B'' w3 h3
          have g1 := Nx.call (L1 := B') (L2 := [.obj l (.loop { rec .ready none with state := .busy }), .obj D (.deferred (some []))])
            (hf3.perm (List.perm_append_comm (l₁ := [_, _]) (l₂ := B'))) h3
          have g2 := g1.perm (List.perm_append_comm (l₁ := B'') (l₂ := [.obj l (.loop { rec .ready none with state := .busy }), .obj D (.deferred (some []))]))
          have hl3 : w3.heap[l]? = some (.loop { rec .ready none with state := .busy }) := g2.get (i := 0) rfl
          have g3 := g2.putObj (i := 0) rfl (.loop (rec (if jump.isNone then .ready else .done) jump))
          simp only [List.cons_append, List.nil_append, List.set_cons_zero] at g3
          refine ⟨?_, g3⟩
          have := run_endRound (P := P) jump hl3
          rw [hrec] at this ⊢
          exact this
        rintro e a3 w3 hp
        cases e with
        | normal =>
          obtain ⟨K, B'', h3, hI3⟩ := hp
          obtain ⟨hr, hn⟩ := fin none K B'' w3 h3
          exact ⟨_, _, hr, .inl ⟨rfl, K, _, hn, B'', rfl, hI3⟩⟩
        | ret =>
          obtain ⟨K, B'', h3, hI3⟩ := hp
          obtain ⟨hr, hn⟩ := fin (some .ret) K B'' w3 h3
          exact ⟨_, _, hr, .inr ⟨rfl, K, _, hn, .ret, B'', rfl, hI3⟩⟩
        | exit id =>
          obtain ⟨K, B'', h3, hI3⟩ := hp
          obtain ⟨hr, hn⟩ := fin (some (.exit id)) K B'' w3 h3
          exact ⟨_, _, hr, .inr ⟨rfl, K, _, hn, .exit id, B'', rfl, hI3⟩⟩
        | goto t => exact hp.elim
        | panic ch => exact hp.elim
        | outgrown => exact hp.elim
      | exit id => exact he.elim
      | goto t => exact he.elim
      | ret => exact he.elim
      | panic ch => exact he.elim
      | outgrown => exact he.elim
    · rintro e w2 ⟨⟨v, rfl⟩, J, B', hnx, (⟨B1, rfl, hInv⟩ | ⟨pre, hpre, c, B1, rfl, hbad⟩)⟩
      · have h2 := hS2.trans hnx
        have hl2 : w2.heap[l]? = some (.loop (rec .ready none)) := h2.get (i := 0) rfl
        have h3 := (h2.putObj (i := 0) rfl (.loop { rec .ready none with state := .exhausted })).drop
        refine ⟨none, _, ?_, hdone D J B1 _ h3 hInv⟩
        have := run_endLoop (P := P) hl2 (by rw [hrec]; simp)
        rw [hrec] at this ⊢
        exact this
      · have h2 := hS2.trans hnx
        have hl2 : w2.heap[l]? = some (.loop (rec .done (some c))) := h2.get (i := 0) rfl
        have h3 := (h2.putObj (i := 0) rfl (.loop { rec .done (some c) with state := .exhausted })).drop
        refine ⟨some c, _, ?_, hstop D c pre J B1 _ h3 hpre hbad⟩
        have := run_endLoop (P := P) hl2 (by rw [hrec]; simp)
        rw [hrec] at this ⊢
        exact this
end Go.Proofs.YtmlgieclkedomaaGreat

namespace Go.Proofs.YtmlgieclkedomaaGreat
open Go Go.RowKit
attribute [local go_sem] Oper.semAt_some

theorem splitG_nil : splitG [] = ([], true) := by unfold splitG; rfl
theorem splitG_none {c : UInt8} {l : Bs} (h : longB (c :: l) = none) : splitG (c :: l) = ([], false) := by
  unfold splitG
  simp only
  split
  · rfl
  · rename_i h2; rw [h] at h2; cases h2
theorem splitG_some {c : UInt8} {l : Bs} {d a : Nat} (h : longB (c :: l) = some (d, a)) : splitG (c :: l) = (⟨c, ((c :: l).drop a).take d⟩ :: (splitG ((c :: l).drop (a + d))).1, (splitG ((c :: l).drop (a + d))).2) := by
  conv => lhs; unfold splitG
  simp only
  split
  · rename_i h2; rw [h] at h2; cases h2
  · rename_i d' a' h2; rw [h] at h2; cases h2; rfl
def badOp : OpS := ⟨0, []⟩
/-- what the iterator hands over -/
def allL (s : Bs) : List (OpS × Bool) := (splitG s).1.map (fun o => (o, true)) ++ (if (splitG s).2 then [] else [(badOp, false)])
theorem allL_nil : allL [] = [] := by unfold allL; rw [splitG_nil]; rfl
theorem allL_none {c : UInt8} {l : Bs} (h : longB (c :: l) = none) : allL (c :: l) = [(badOp, false)] := by unfold allL; rw [splitG_none h]; rfl
theorem allL_some {c : UInt8} {l : Bs} {d a : Nat} (h : longB (c :: l) = some (d, a)) : allL (c :: l) = (⟨c, ((c :: l).drop a).take d⟩, true) :: allL ((c :: l).drop (a + d)) := by unfold allL; rw [splitG_some h]; rfl
def opR (x : OpS × Bool) (I : Imm) (args : Array Value) : Prop := ∃ vs, args = #[.agg vs.toArray, .bool x.2] ∧ OpAt I x.1 vs
def lenW (w : World) (b : Nat) : Nat := match w.cell? ⟨b, 0, none⟩ with | some (.slice _ n _) => n | _ => 0
theorem lenW_eq {w : World} {b : Nat} {ad : Option Addr} {n c : Nat} (h : w.cell? ⟨b, 0, none⟩ = some (.slice ad n c)) : lenW w b = n := by unfold lenW; rw [h]
attribute [irreducible] lenW

theorem all_spec {I : Imm} {w : World} (hI : I.Holds w) {ad : Option Addr} {n c : Nat} :
    Calls Tryz.prog 47 #[.slice ad n c] w fun e w' => ∃ b, e = .returned (.func (.func 70) #[] #[.pointer (some ⟨b, 0, none⟩)]) ∧ Nx [] I w I [.blk b [.slice ad n c] 22] w' := by
  have hS := Nx.nil hI
  have hmf : ∀ (fn : Fn) (first cap : Array Value) (w : World), (Instr.makeFunc fn first cap).run Tryz.prog w = .ok (.func fn first cap) w := fun _ _ _ _ => rfl
  go_enter Tryz.func47, Tryz.ntmps47
  go_wp2_with ((with_reducible refine gL_box ?_); (refine sL_box hS rfl _ _ rfl _ (by go_simp; first | exact rfl | exact ⟨rfl, rfl⟩) ?_; clear hS; intro b w' hb hS))
  go_ret
  exact ⟨b, rfl, hS⟩

set_option maxRecDepth 10000 in
set_option maxHeartbeats 1000000 in
theorem all1_emits {I : Imm} {w : World} {b : Nat} {v : Value} {s0 : Bs} (hv : RdB I v s0) (hl : s0.length ≤ 1000000) :
    EmitsR Tryz.prog 70 #[.pointer (some ⟨b, 0, none⟩)] opR I w [.blk b [v] 22] (allL s0) := by
  intro l Inv Bad B hM hY hin h0
  have hS := hin.nx
  simp only [List.cons_append, List.nil_append] at hS
  (refine callsIn_of_wp Tryz.func70 rfl trivial ?_; simp only [Tryz.ntmps70, List.size_toArray, List.length_cons, List.length_nil, Nat.reduceAdd, Nat.reduceSub, Array.replicate_succ, Array.replicate_zero, List.push_toArray, List.append_toArray, List.nil_append, List.cons_append])
  gi_wp2_with fail
  gi_loopw [6] (fun v6 wr => ∃ v' s' pre J B', RdB I v' s' ∧ s'.length ≤ 1000000 ∧ pre ++ allL s' = allL s0 ∧ I.Le J ∧ Nx (.blk b [v] 22 :: B) I w J (.blk b [v'] 22 :: B') wr ∧ Inv pre J B') (fun _ wr => lenW wr b)
  case atStart => exact ⟨v, s0, [], I, B, hv, hl, rfl, Imm.Le.refl _, hS, h0⟩
  case round =>
    clear hS
    obtain ⟨v', s', pre, J, B', hrd, hl', hxs, hleJ, hS, hInv⟩ := hrel
    obtain ⟨va, vc, rfl, -, -, -⟩ := hrd.ex
    have hmeas : lenW wr b = s'.length := lenW_eq (hS.blkCell 0 rfl 0 rfl)
    cases s' with
    | nil =>
      gi_wp2_with ((with_reducible refine gN_load ?_); first | (refine sN_load hS rfl _ _ rfl _ _ rfl 0 _ _ rfl _ rfl ?_) | (refine sN_load hS rfl _ _ rfl _ _ rfl 1 _ _ rfl _ rfl ?_) | (refine sN_load hS rfl _ _ rfl _ _ rfl 2 _ _ rfl _ rfl ?_) | (refine sN_load hS rfl _ _ rfl _ _ rfl 3 _ _ rfl _ rfl ?_) | (refine sN_load hS rfl _ _ rfl _ _ rfl 4 _ _ rfl _ rfl ?_) | (refine sN_load hS rfl _ _ rfl _ _ rfl 5 _ _ rfl _ rfl ?_) | (refine sN_loadA hS rfl _ _ rfl _ _ rfl 0 _ _ rfl _ rfl rfl ?_) | (refine sN_loadA hS rfl _ _ rfl _ _ rfl 1 _ _ rfl _ rfl rfl ?_) | (refine sN_loadA hS rfl _ _ rfl _ _ rfl 2 _ _ rfl _ rfl rfl ?_) | (refine sN_loadA hS rfl _ _ rfl _ _ rfl 3 _ _ rfl _ rfl rfl ?_) | (refine sN_loadA hS rfl _ _ rfl _ _ rfl 4 _ _ rfl _ rfl rfl ?_) | (refine sN_loadA hS rfl _ _ rfl _ _ rfl 5 _ _ rfl _ rfl rfl ?_))
      refine bodyPost_end (results_none rfl _ _ _) rfl ⟨⟨_, rfl⟩, J, B', hS.drop, .inl ?_⟩
      rw [allL_nil, List.append_nil] at hxs
      rw [← hxs]; exact hInv
    | cons c l1 =>
      have hlong : ∀ {W : World}, J.Holds W → Calls Tryz.prog 71 #[.slice va (c :: l1).length vc] W (LongPost J W (c :: l1)) := fun hI => long_spec hI (hrd.mono hleJ) (by simp at hl'; omega)
      obtain ⟨-, hcap, g, j, rfl, hat⟩ := RdB.at hrd (by simp)
      have hcell : ∀ {W : World} {J2 : Imm}, J.Le J2 → J2.Holds W → W.cell? ⟨g, j, none⟩ = some (bv c) := fun hle hI => by have := ((hat.mono hleJ).mono hle).cell hI 0 (u := bv c) rfl; simpa using this
      obtain ⟨s, hs⟩ : ∃ s, s = c :: l1 := ⟨_, rfl⟩
      obtain ⟨n, hn⟩ : ∃ n, n = s.length := ⟨_, rfl⟩
      have hn0 : 0 < n := by rw [hn, hs]; simp
      have hn0i : (0 : Int) < n := by omega
      rw [← hs] at hlong hrd hl' hxs hmeas hcap hS
      rw [← hn] at hlong hrd hl' hmeas hcap hS
      unfold LongPost at hlong
      rw [hs] at hlong
      cases hlb : longB (c :: l1) with
      | none =>
        rw [hlb] at hlong
        simp only at hlong
        rw [hs, allL_none hlb] at hxs
        have Hxs := Lib.hid hxs
        clear hxs hs hn
        gi_wp2_with (first | ((with_reducible refine gN_load ?_); first | (refine sN_load hS rfl _ _ rfl _ _ rfl 0 _ _ rfl _ rfl ?_) | (refine sN_load hS rfl _ _ rfl _ _ rfl 1 _ _ rfl _ rfl ?_) | (refine sN_load hS rfl _ _ rfl _ _ rfl 2 _ _ rfl _ rfl ?_) | (refine sN_load hS rfl _ _ rfl _ _ rfl 3 _ _ rfl _ rfl ?_) | (refine sN_load hS rfl _ _ rfl _ _ rfl 4 _ _ rfl _ rfl ?_) | (refine sN_load hS rfl _ _ rfl _ _ rfl 5 _ _ rfl _ rfl ?_) | (refine sN_loadA hS rfl _ _ rfl _ _ rfl 0 _ _ rfl _ rfl rfl ?_) | (refine sN_loadA hS rfl _ _ rfl _ _ rfl 1 _ _ rfl _ rfl rfl ?_) | (refine sN_loadA hS rfl _ _ rfl _ _ rfl 2 _ _ rfl _ rfl rfl ?_) | (refine sN_loadA hS rfl _ _ rfl _ _ rfl 3 _ _ rfl _ rfl rfl ?_) | (refine sN_loadA hS rfl _ _ rfl _ _ rfl 4 _ _ rfl _ rfl rfl ?_) | (refine sN_loadA hS rfl _ _ rfl _ _ rfl 5 _ _ rfl _ rfl rfl ?_)) | (refine ⟨trivial, rfl, ?_⟩; gi_at_call 71; refine (callsIn_wide.2 (hlong hS.hI)).mono ?_; rintro e w' ⟨rfl, hn⟩; replace hS := hS.pure0 hn; clear hn))
        refine hY.at (Lit := [_]) hS (badOp, false) (by rw [← Hxs.out]; exact List.prefix_refl _) hInv ⟨[bv 0, .slice none 0 0], rfl, none, 0, rfl, RdB.nil⟩ (fun J2 B2 w2 hS2 hle2 hI2 => ?_) (fun J2 B2 w2 hS2 hle2 hb2 => ?_)
        · gi_wp2_with fail
          exact bodyPost_ret (results_none rfl _ _ _) rfl ⟨⟨_, rfl⟩, J2, B2, hS2.drop, .inl (by rw [← Hxs.out]; exact hI2)⟩
        · gi_wp2_with fail
          exact bodyPost_ret (results_none rfl _ _ _) rfl ⟨⟨_, rfl⟩, J2, B2, hS2.drop, .inr ⟨_, by rw [← Hxs.out]; exact List.prefix_refl _, hb2⟩⟩
      | some da =>
        obtain ⟨d, a⟩ := da
        rw [hlb] at hlong
        simp only at hlong
        obtain ⟨ha1, had, ha3⟩ := longB_le hlb
        rw [← hs, ← hn] at had
        rw [hs, allL_some hlb, ← hs] at hxs
        have hsub := hrd.sub hn.symm a (a + d) vc (by omega) (by omega) (by omega) (Nat.le_refl _)
        rw [show a + d - a = d by omega] at hsub
        have hnext := hrd.sub hn.symm (a + d) n vc had (Nat.le_refl _) hcap (Nat.le_refl _)
        rw [List.take_of_length_le (by rw [List.length_drop]; omega)] at hnext
        have hdl : ((s.drop a).take d).length = d := by rw [List.length_take, List.length_drop]; omega
        have hnl : (s.drop (a + d)).length = n - (a + d) := by rw [List.length_drop]; omega
        obtain ⟨q, hq⟩ : ∃ q, q = (s.drop a).take d := ⟨_, rfl⟩
        rw [← hq] at hsub hxs hdl
        have hpre : pre ++ [((⟨c, q⟩, true) : OpS × Bool)] <+: allL s0 := by rw [← hxs]; exact ⟨_, by rw [List.append_assoc]; rfl⟩
        have Hxs := Lib.hid hxs
        clear hxs hs hn hq
        by_cases hd0 : d = 0
        · have hq0 : q = [] := List.eq_nil_of_length_eq_zero (by omega)
          subst hd0
          simp only [Nat.add_zero] at hnext hnl Hxs had
          gi_wp2_with (first | ((with_reducible refine gN_load ?_); first | (refine sN_load hS rfl _ _ rfl _ _ rfl 0 _ _ rfl _ rfl ?_) | (refine sN_load hS rfl _ _ rfl _ _ rfl 1 _ _ rfl _ rfl ?_) | (refine sN_load hS rfl _ _ rfl _ _ rfl 2 _ _ rfl _ rfl ?_) | (refine sN_load hS rfl _ _ rfl _ _ rfl 3 _ _ rfl _ rfl ?_) | (refine sN_load hS rfl _ _ rfl _ _ rfl 4 _ _ rfl _ rfl ?_) | (refine sN_load hS rfl _ _ rfl _ _ rfl 5 _ _ rfl _ rfl ?_) | (refine sN_loadA hS rfl _ _ rfl _ _ rfl 0 _ _ rfl _ rfl rfl ?_) | (refine sN_loadA hS rfl _ _ rfl _ _ rfl 1 _ _ rfl _ rfl rfl ?_) | (refine sN_loadA hS rfl _ _ rfl _ _ rfl 2 _ _ rfl _ rfl rfl ?_) | (refine sN_loadA hS rfl _ _ rfl _ _ rfl 3 _ _ rfl _ rfl rfl ?_) | (refine sN_loadA hS rfl _ _ rfl _ _ rfl 4 _ _ rfl _ rfl rfl ?_) | (refine sN_loadA hS rfl _ _ rfl _ _ rfl 5 _ _ rfl _ rfl rfl ?_)) | (refine ⟨trivial, rfl, ?_⟩; gi_at_call 71; refine (callsIn_wide.2 (hlong hS.hI)).mono ?_; rintro e w' ⟨rfl, hn⟩; replace hS := hS.pure0 hn; clear hn) | (refine sN_loadC rfl _ _ rfl _ _ rfl _ (hcell (Imm.Le.refl _) hS.hI) ?_) | (refine sN_alloc hS rfl 30 rfl ?_; clear hS; intro ob w' hob hS) | (first | with_reducible refine wpIn_scope_straight ?_ | with_reducible refine wpIn_label ?_ | ((with_reducible refine gN_load ?_); first | (refine sN_load hS rfl _ _ rfl _ _ rfl 0 _ _ rfl _ rfl ?_) | (refine sN_load hS rfl _ _ rfl _ _ rfl 1 _ _ rfl _ rfl ?_) | (refine sN_load hS rfl _ _ rfl _ _ rfl 2 _ _ rfl _ rfl ?_) | (refine sN_load hS rfl _ _ rfl _ _ rfl 3 _ _ rfl _ rfl ?_) | (refine sN_load hS rfl _ _ rfl _ _ rfl 4 _ _ rfl _ rfl ?_) | (refine sN_load hS rfl _ _ rfl _ _ rfl 5 _ _ rfl _ rfl ?_) | (refine sN_loadA hS rfl _ _ rfl _ _ rfl 0 _ _ rfl _ rfl rfl ?_) | (refine sN_loadA hS rfl _ _ rfl _ _ rfl 1 _ _ rfl _ rfl rfl ?_) | (refine sN_loadA hS rfl _ _ rfl _ _ rfl 2 _ _ rfl _ rfl rfl ?_) | (refine sN_loadA hS rfl _ _ rfl _ _ rfl 3 _ _ rfl _ rfl rfl ?_) | (refine sN_loadA hS rfl _ _ rfl _ _ rfl 4 _ _ rfl _ rfl rfl ?_) | (refine sN_loadA hS rfl _ _ rfl _ _ rfl 5 _ _ rfl _ rfl rfl ?_)) | ((with_reducible refine gN_store ?_); first | (refine sN_store hS rfl _ _ _ rfl _ _ rfl 0 _ _ rfl _ (by go_simp; first | exact rfl | exact ⟨rfl, rfl⟩) rfl (by simp) ?_; clear hS; intro w' hS; simp only [List.set_cons_zero] at hS) | (refine sN_store hS rfl _ _ _ rfl _ _ rfl 1 _ _ rfl _ (by go_simp; first | exact rfl | exact ⟨rfl, rfl⟩) rfl (by simp) ?_; clear hS; intro w' hS; simp only [List.set_cons_zero, List.set_cons_succ] at hS) | (refine sN_store hS rfl _ _ _ rfl _ _ rfl 2 _ _ rfl _ (by go_simp; first | exact rfl | exact ⟨rfl, rfl⟩) rfl (by simp) ?_; clear hS; intro w' hS; simp only [List.set_cons_zero, List.set_cons_succ] at hS) | (refine sN_store hS rfl _ _ _ rfl _ _ rfl 3 _ _ rfl _ (by go_simp; first | exact rfl | exact ⟨rfl, rfl⟩) rfl (by simp) ?_; clear hS; intro w' hS; simp only [List.set_cons_zero, List.set_cons_succ] at hS) | (refine sN_store hS rfl _ _ _ rfl _ _ rfl 4 _ _ rfl _ (by go_simp; first | exact rfl | exact ⟨rfl, rfl⟩) rfl (by simp) ?_; clear hS; intro w' hS; simp only [List.set_cons_zero, List.set_cons_succ] at hS) | (refine sN_store hS rfl _ _ _ rfl _ _ rfl 5 _ _ rfl _ (by go_simp; first | exact rfl | exact ⟨rfl, rfl⟩) rfl (by simp) ?_; clear hS; intro w' hS; simp only [List.set_cons_zero, List.set_cons_succ] at hS) | (refine sN_storeB hS rfl _ _ _ rfl _ rfl 0 _ _ rfl _ (by go_simp; first | exact rfl | exact ⟨rfl, rfl⟩) (by rfl) (by rfl) (by simp [Value.oneCell']) ?_; clear hS; intro w' hS; simp only [List.set_cons_zero] at hS) | (refine sN_storeB hS rfl _ _ _ rfl _ rfl 1 _ _ rfl _ (by go_simp; first | exact rfl | exact ⟨rfl, rfl⟩) (by rfl) (by rfl) (by simp [Value.oneCell']) ?_; clear hS; intro w' hS; simp only [List.set_cons_zero, List.set_cons_succ] at hS) | (refine sN_storeB hS rfl _ _ _ rfl _ rfl 2 _ _ rfl _ (by go_simp; first | exact rfl | exact ⟨rfl, rfl⟩) (by rfl) (by rfl) (by simp [Value.oneCell']) ?_; clear hS; intro w' hS; simp only [List.set_cons_zero, List.set_cons_succ] at hS) | (refine sN_storeB hS rfl _ _ _ rfl _ rfl 3 _ _ rfl _ (by go_simp; first | exact rfl | exact ⟨rfl, rfl⟩) (by rfl) (by rfl) (by simp [Value.oneCell']) ?_; clear hS; intro w' hS; simp only [List.set_cons_zero, List.set_cons_succ] at hS) | (refine sN_storeB hS rfl _ _ _ rfl _ rfl 4 _ _ rfl _ (by go_simp; first | exact rfl | exact ⟨rfl, rfl⟩) (by rfl) (by rfl) (by simp [Value.oneCell']) ?_; clear hS; intro w' hS; simp only [List.set_cons_zero, List.set_cons_succ] at hS) | (refine sN_storeB hS rfl _ _ _ rfl _ rfl 5 _ _ rfl _ (by go_simp; first | exact rfl | exact ⟨rfl, rfl⟩) (by rfl) (by rfl) (by simp [Value.oneCell']) ?_; clear hS; intro w' hS; simp only [List.set_cons_zero, List.set_cons_succ] at hS)) | ((with_reducible refine gN_alloc ?_); (refine sN_alloc hS rfl _ rfl ?_; clear hS; intro b w' hb hS)) | ((with_reducible refine gN_box ?_); (refine sN_box hS rfl _ _ rfl _ (by go_simp; first | exact rfl | exact ⟨rfl, rfl⟩) ?_; clear hS; intro b w' hb hS))))
          replace hS := hS.drop
          refine hY.at (Lit := [_]) hS (⟨c, q⟩, true) hpre hInv ⟨[bv c, .slice none 0 0], rfl, none, 0, by rw [hq0]; rfl, by rw [hq0]; exact RdB.nil⟩ (fun J2 B2 w2 hS2 hle2 hI2 => ?_) (fun J2 B2 w2 hS2 hle2 hb2 => ?_)
          · clear hS
            have hS := hS2
            clear hS2
            gi_wp2_with (first | ((with_reducible refine gN_load ?_); first | (refine sN_load hS rfl _ _ rfl _ _ rfl 0 _ _ rfl _ rfl ?_) | (refine sN_load hS rfl _ _ rfl _ _ rfl 1 _ _ rfl _ rfl ?_) | (refine sN_load hS rfl _ _ rfl _ _ rfl 2 _ _ rfl _ rfl ?_) | (refine sN_load hS rfl _ _ rfl _ _ rfl 3 _ _ rfl _ rfl ?_) | (refine sN_load hS rfl _ _ rfl _ _ rfl 4 _ _ rfl _ rfl ?_) | (refine sN_load hS rfl _ _ rfl _ _ rfl 5 _ _ rfl _ rfl ?_) | (refine sN_loadA hS rfl _ _ rfl _ _ rfl 0 _ _ rfl _ rfl rfl ?_) | (refine sN_loadA hS rfl _ _ rfl _ _ rfl 1 _ _ rfl _ rfl rfl ?_) | (refine sN_loadA hS rfl _ _ rfl _ _ rfl 2 _ _ rfl _ rfl rfl ?_) | (refine sN_loadA hS rfl _ _ rfl _ _ rfl 3 _ _ rfl _ rfl rfl ?_) | (refine sN_loadA hS rfl _ _ rfl _ _ rfl 4 _ _ rfl _ rfl rfl ?_) | (refine sN_loadA hS rfl _ _ rfl _ _ rfl 5 _ _ rfl _ rfl rfl ?_)) | ((with_reducible refine gN_slice ?_); refine sN_slice rfl _ _ _ _ _ rfl _ _ _ rfl (a) (n) (vc) (by first | rfl | (show _ = _; omega) | (show _ = _; simp; done) | (show _ = _; simp; omega)) (by first | rfl | (show _ = _; omega) | (show _ = _; simp; done) | (show _ = _; simp; omega)) (by first | rfl | (show _ = _; omega) | (show _ = _; simp; done) | (show _ = _; simp; omega)) (by omega) (by omega) (by omega) (by simp) ?_) | (first | with_reducible refine wpIn_scope_straight ?_ | with_reducible refine wpIn_label ?_ | ((with_reducible refine gN_load ?_); first | (refine sN_load hS rfl _ _ rfl _ _ rfl 0 _ _ rfl _ rfl ?_) | (refine sN_load hS rfl _ _ rfl _ _ rfl 1 _ _ rfl _ rfl ?_) | (refine sN_load hS rfl _ _ rfl _ _ rfl 2 _ _ rfl _ rfl ?_) | (refine sN_load hS rfl _ _ rfl _ _ rfl 3 _ _ rfl _ rfl ?_) | (refine sN_load hS rfl _ _ rfl _ _ rfl 4 _ _ rfl _ rfl ?_) | (refine sN_load hS rfl _ _ rfl _ _ rfl 5 _ _ rfl _ rfl ?_) | (refine sN_loadA hS rfl _ _ rfl _ _ rfl 0 _ _ rfl _ rfl rfl ?_) | (refine sN_loadA hS rfl _ _ rfl _ _ rfl 1 _ _ rfl _ rfl rfl ?_) | (refine sN_loadA hS rfl _ _ rfl _ _ rfl 2 _ _ rfl _ rfl rfl ?_) | (refine sN_loadA hS rfl _ _ rfl _ _ rfl 3 _ _ rfl _ rfl rfl ?_) | (refine sN_loadA hS rfl _ _ rfl _ _ rfl 4 _ _ rfl _ rfl rfl ?_) | (refine sN_loadA hS rfl _ _ rfl _ _ rfl 5 _ _ rfl _ rfl rfl ?_)) | ((with_reducible refine gN_store ?_); first | (refine sN_store hS rfl _ _ _ rfl _ _ rfl 0 _ _ rfl _ (by go_simp; first | exact rfl | exact ⟨rfl, rfl⟩) rfl (by simp) ?_; clear hS; intro w' hS; simp only [List.set_cons_zero] at hS) | (refine sN_store hS rfl _ _ _ rfl _ _ rfl 1 _ _ rfl _ (by go_simp; first | exact rfl | exact ⟨rfl, rfl⟩) rfl (by simp) ?_; clear hS; intro w' hS; simp only [List.set_cons_zero, List.set_cons_succ] at hS) | (refine sN_store hS rfl _ _ _ rfl _ _ rfl 2 _ _ rfl _ (by go_simp; first | exact rfl | exact ⟨rfl, rfl⟩) rfl (by simp) ?_; clear hS; intro w' hS; simp only [List.set_cons_zero, List.set_cons_succ] at hS) | (refine sN_store hS rfl _ _ _ rfl _ _ rfl 3 _ _ rfl _ (by go_simp; first | exact rfl | exact ⟨rfl, rfl⟩) rfl (by simp) ?_; clear hS; intro w' hS; simp only [List.set_cons_zero, List.set_cons_succ] at hS) | (refine sN_store hS rfl _ _ _ rfl _ _ rfl 4 _ _ rfl _ (by go_simp; first | exact rfl | exact ⟨rfl, rfl⟩) rfl (by simp) ?_; clear hS; intro w' hS; simp only [List.set_cons_zero, List.set_cons_succ] at hS) | (refine sN_store hS rfl _ _ _ rfl _ _ rfl 5 _ _ rfl _ (by go_simp; first | exact rfl | exact ⟨rfl, rfl⟩) rfl (by simp) ?_; clear hS; intro w' hS; simp only [List.set_cons_zero, List.set_cons_succ] at hS) | (refine sN_storeB hS rfl _ _ _ rfl _ rfl 0 _ _ rfl _ (by go_simp; first | exact rfl | exact ⟨rfl, rfl⟩) (by rfl) (by rfl) (by simp [Value.oneCell']) ?_; clear hS; intro w' hS; simp only [List.set_cons_zero] at hS) | (refine sN_storeB hS rfl _ _ _ rfl _ rfl 1 _ _ rfl _ (by go_simp; first | exact rfl | exact ⟨rfl, rfl⟩) (by rfl) (by rfl) (by simp [Value.oneCell']) ?_; clear hS; intro w' hS; simp only [List.set_cons_zero, List.set_cons_succ] at hS) | (refine sN_storeB hS rfl _ _ _ rfl _ rfl 2 _ _ rfl _ (by go_simp; first | exact rfl | exact ⟨rfl, rfl⟩) (by rfl) (by rfl) (by simp [Value.oneCell']) ?_; clear hS; intro w' hS; simp only [List.set_cons_zero, List.set_cons_succ] at hS) | (refine sN_storeB hS rfl _ _ _ rfl _ rfl 3 _ _ rfl _ (by go_simp; first | exact rfl | exact ⟨rfl, rfl⟩) (by rfl) (by rfl) (by simp [Value.oneCell']) ?_; clear hS; intro w' hS; simp only [List.set_cons_zero, List.set_cons_succ] at hS) | (refine sN_storeB hS rfl _ _ _ rfl _ rfl 4 _ _ rfl _ (by go_simp; first | exact rfl | exact ⟨rfl, rfl⟩) (by rfl) (by rfl) (by simp [Value.oneCell']) ?_; clear hS; intro w' hS; simp only [List.set_cons_zero, List.set_cons_succ] at hS) | (refine sN_storeB hS rfl _ _ _ rfl _ rfl 5 _ _ rfl _ (by go_simp; first | exact rfl | exact ⟨rfl, rfl⟩) (by rfl) (by rfl) (by simp [Value.oneCell']) ?_; clear hS; intro w' hS; simp only [List.set_cons_zero, List.set_cons_succ] at hS)) | ((with_reducible refine gN_alloc ?_); (refine sN_alloc hS rfl _ rfl ?_; clear hS; intro b w' hb hS)) | ((with_reducible refine gN_box ?_); (refine sN_box hS rfl _ _ rfl _ (by go_simp; first | exact rfl | exact ⟨rfl, rfl⟩) ?_; clear hS; intro b w' hb hS))))
            refine ⟨?_, ?_⟩
            · refine ⟨_, _, _, _, _, _, _, _, _, _, _, _, _, _, _, _, _, _, _, _, _, _, _, _, _, _, _, _, _, _, _, _, _, _, _, _, _, _, _, ⟨_, s.drop (a), pre ++ [((⟨c, q⟩, true) : OpS × Bool)], J2, B2, hnext, by rw [hnl]; omega, ?_, hleJ.trans hle2, hS, hI2⟩, rfl⟩
              rw [← Hxs.out, List.append_assoc]; rfl
            · rw [hmeas, lenW_eq (hS.blkCell 0 rfl 0 rfl)]; omega
          · gi_wp2_with fail
            exact bodyPost_ret (results_none rfl _ _ _) rfl ⟨⟨_, rfl⟩, J2, B2, hS2.drop, .inr ⟨_, hpre, hb2⟩⟩
        · have hdi : (0 : Int) < d := by omega
          have hdi0 : ¬ (d : Int) < 0 := by omega
          have had2 : (a : Int) + d ≤ n := by omega
          gi_wp2_with (first | ((with_reducible refine gN_load ?_); first | (refine sN_load hS rfl _ _ rfl _ _ rfl 0 _ _ rfl _ rfl ?_) | (refine sN_load hS rfl _ _ rfl _ _ rfl 1 _ _ rfl _ rfl ?_) | (refine sN_load hS rfl _ _ rfl _ _ rfl 2 _ _ rfl _ rfl ?_) | (refine sN_load hS rfl _ _ rfl _ _ rfl 3 _ _ rfl _ rfl ?_) | (refine sN_load hS rfl _ _ rfl _ _ rfl 4 _ _ rfl _ rfl ?_) | (refine sN_load hS rfl _ _ rfl _ _ rfl 5 _ _ rfl _ rfl ?_) | (refine sN_loadA hS rfl _ _ rfl _ _ rfl 0 _ _ rfl _ rfl rfl ?_) | (refine sN_loadA hS rfl _ _ rfl _ _ rfl 1 _ _ rfl _ rfl rfl ?_) | (refine sN_loadA hS rfl _ _ rfl _ _ rfl 2 _ _ rfl _ rfl rfl ?_) | (refine sN_loadA hS rfl _ _ rfl _ _ rfl 3 _ _ rfl _ rfl rfl ?_) | (refine sN_loadA hS rfl _ _ rfl _ _ rfl 4 _ _ rfl _ rfl rfl ?_) | (refine sN_loadA hS rfl _ _ rfl _ _ rfl 5 _ _ rfl _ rfl rfl ?_)) | (refine ⟨trivial, rfl, ?_⟩; gi_at_call 71; refine (callsIn_wide.2 (hlong hS.hI)).mono ?_; rintro e w' ⟨rfl, hn⟩; replace hS := hS.pure0 hn; clear hn) | (refine sN_loadC rfl _ _ rfl _ _ rfl _ (hcell (Imm.Le.refl _) hS.hI) ?_) | (refine sN_alloc hS rfl 30 rfl ?_; clear hS; intro ob w' hob hS) | ((with_reducible refine gN_slice ?_); refine sN_slice rfl _ _ _ _ _ rfl _ _ _ rfl (a) (a + d) (vc) (by first | rfl | (show _ = _; omega) | (show _ = _; simp; done) | (show _ = _; simp; omega)) (by first | rfl | (show _ = _; omega) | (show _ = _; simp; done) | (show _ = _; simp; omega)) (by first | rfl | (show _ = _; omega) | (show _ = _; simp; done) | (show _ = _; simp; omega)) (by omega) (by omega) (by omega) (by simp) ?_; rw [show (a + d) - (a) = d by omega, show (vc) - (a) = vc - a by omega]) | ((refine ⟨trivial, rfl, ?_⟩; gi_at_call 49; refine (callsIn_wide.2 (Clone_spec hS.hI (hsub.mono hleJ) (by omega))).mono ?_; rintro e w' ⟨ca, cc, rfl, hn⟩; obtain ⟨K, hS2, hleK, hrd2⟩ := hS.pureFreeze hn; clear hS hn; have hS := hS2; clear hS2; rw [hdl] at hrd2 ⊢)) | (first | with_reducible refine wpIn_scope_straight ?_ | with_reducible refine wpIn_label ?_ | ((with_reducible refine gN_load ?_); first | (refine sN_load hS rfl _ _ rfl _ _ rfl 0 _ _ rfl _ rfl ?_) | (refine sN_load hS rfl _ _ rfl _ _ rfl 1 _ _ rfl _ rfl ?_) | (refine sN_load hS rfl _ _ rfl _ _ rfl 2 _ _ rfl _ rfl ?_) | (refine sN_load hS rfl _ _ rfl _ _ rfl 3 _ _ rfl _ rfl ?_) | (refine sN_load hS rfl _ _ rfl _ _ rfl 4 _ _ rfl _ rfl ?_) | (refine sN_load hS rfl _ _ rfl _ _ rfl 5 _ _ rfl _ rfl ?_) | (refine sN_loadA hS rfl _ _ rfl _ _ rfl 0 _ _ rfl _ rfl rfl ?_) | (refine sN_loadA hS rfl _ _ rfl _ _ rfl 1 _ _ rfl _ rfl rfl ?_) | (refine sN_loadA hS rfl _ _ rfl _ _ rfl 2 _ _ rfl _ rfl rfl ?_) | (refine sN_loadA hS rfl _ _ rfl _ _ rfl 3 _ _ rfl _ rfl rfl ?_) | (refine sN_loadA hS rfl _ _ rfl _ _ rfl 4 _ _ rfl _ rfl rfl ?_) | (refine sN_loadA hS rfl _ _ rfl _ _ rfl 5 _ _ rfl _ rfl rfl ?_)) | ((with_reducible refine gN_store ?_); first | (refine sN_store hS rfl _ _ _ rfl _ _ rfl 0 _ _ rfl _ (by go_simp; first | exact rfl | exact ⟨rfl, rfl⟩) rfl (by simp) ?_; clear hS; intro w' hS; simp only [List.set_cons_zero] at hS) | (refine sN_store hS rfl _ _ _ rfl _ _ rfl 1 _ _ rfl _ (by go_simp; first | exact rfl | exact ⟨rfl, rfl⟩) rfl (by simp) ?_; clear hS; intro w' hS; simp only [List.set_cons_zero, List.set_cons_succ] at hS) | (refine sN_store hS rfl _ _ _ rfl _ _ rfl 2 _ _ rfl _ (by go_simp; first | exact rfl | exact ⟨rfl, rfl⟩) rfl (by simp) ?_; clear hS; intro w' hS; simp only [List.set_cons_zero, List.set_cons_succ] at hS) | (refine sN_store hS rfl _ _ _ rfl _ _ rfl 3 _ _ rfl _ (by go_simp; first | exact rfl | exact ⟨rfl, rfl⟩) rfl (by simp) ?_; clear hS; intro w' hS; simp only [List.set_cons_zero, List.set_cons_succ] at hS) | (refine sN_store hS rfl _ _ _ rfl _ _ rfl 4 _ _ rfl _ (by go_simp; first | exact rfl | exact ⟨rfl, rfl⟩) rfl (by simp) ?_; clear hS; intro w' hS; simp only [List.set_cons_zero, List.set_cons_succ] at hS) | (refine sN_store hS rfl _ _ _ rfl _ _ rfl 5 _ _ rfl _ (by go_simp; first | exact rfl | exact ⟨rfl, rfl⟩) rfl (by simp) ?_; clear hS; intro w' hS; simp only [List.set_cons_zero, List.set_cons_succ] at hS) | (refine sN_storeB hS rfl _ _ _ rfl _ rfl 0 _ _ rfl _ (by go_simp; first | exact rfl | exact ⟨rfl, rfl⟩) (by rfl) (by rfl) (by simp [Value.oneCell']) ?_; clear hS; intro w' hS; simp only [List.set_cons_zero] at hS) | (refine sN_storeB hS rfl _ _ _ rfl _ rfl 1 _ _ rfl _ (by go_simp; first | exact rfl | exact ⟨rfl, rfl⟩) (by rfl) (by rfl) (by simp [Value.oneCell']) ?_; clear hS; intro w' hS; simp only [List.set_cons_zero, List.set_cons_succ] at hS) | (refine sN_storeB hS rfl _ _ _ rfl _ rfl 2 _ _ rfl _ (by go_simp; first | exact rfl | exact ⟨rfl, rfl⟩) (by rfl) (by rfl) (by simp [Value.oneCell']) ?_; clear hS; intro w' hS; simp only [List.set_cons_zero, List.set_cons_succ] at hS) | (refine sN_storeB hS rfl _ _ _ rfl _ rfl 3 _ _ rfl _ (by go_simp; first | exact rfl | exact ⟨rfl, rfl⟩) (by rfl) (by rfl) (by simp [Value.oneCell']) ?_; clear hS; intro w' hS; simp only [List.set_cons_zero, List.set_cons_succ] at hS) | (refine sN_storeB hS rfl _ _ _ rfl _ rfl 4 _ _ rfl _ (by go_simp; first | exact rfl | exact ⟨rfl, rfl⟩) (by rfl) (by rfl) (by simp [Value.oneCell']) ?_; clear hS; intro w' hS; simp only [List.set_cons_zero, List.set_cons_succ] at hS) | (refine sN_storeB hS rfl _ _ _ rfl _ rfl 5 _ _ rfl _ (by go_simp; first | exact rfl | exact ⟨rfl, rfl⟩) (by rfl) (by rfl) (by simp [Value.oneCell']) ?_; clear hS; intro w' hS; simp only [List.set_cons_zero, List.set_cons_succ] at hS)) | ((with_reducible refine gN_alloc ?_); (refine sN_alloc hS rfl _ rfl ?_; clear hS; intro b w' hb hS)) | ((with_reducible refine gN_box ?_); (refine sN_box hS rfl _ _ rfl _ (by go_simp; first | exact rfl | exact ⟨rfl, rfl⟩) ?_; clear hS; intro b w' hb hS))))
          replace hS := hS.drop
          replace hInv := hM _ _ _ _ hleK hInv
          refine hY.at (Lit := [_]) hS (⟨c, q⟩, true) hpre hInv ⟨[bv c, .slice ca d cc], rfl, ca, cc, by rw [hdl], by rw [hdl]; exact hrd2.asB _ rfl _ rfl hdl⟩ (fun J2 B2 w2 hS2 hle2 hI2 => ?_) (fun J2 B2 w2 hS2 hle2 hb2 => ?_)
          · clear hS
            have hS := hS2
            clear hS2
            gi_wp2_with (first | ((with_reducible refine gN_load ?_); first | (refine sN_load hS rfl _ _ rfl _ _ rfl 0 _ _ rfl _ rfl ?_) | (refine sN_load hS rfl _ _ rfl _ _ rfl 1 _ _ rfl _ rfl ?_) | (refine sN_load hS rfl _ _ rfl _ _ rfl 2 _ _ rfl _ rfl ?_) | (refine sN_load hS rfl _ _ rfl _ _ rfl 3 _ _ rfl _ rfl ?_) | (refine sN_load hS rfl _ _ rfl _ _ rfl 4 _ _ rfl _ rfl ?_) | (refine sN_load hS rfl _ _ rfl _ _ rfl 5 _ _ rfl _ rfl ?_) | (refine sN_loadA hS rfl _ _ rfl _ _ rfl 0 _ _ rfl _ rfl rfl ?_) | (refine sN_loadA hS rfl _ _ rfl _ _ rfl 1 _ _ rfl _ rfl rfl ?_) | (refine sN_loadA hS rfl _ _ rfl _ _ rfl 2 _ _ rfl _ rfl rfl ?_) | (refine sN_loadA hS rfl _ _ rfl _ _ rfl 3 _ _ rfl _ rfl rfl ?_) | (refine sN_loadA hS rfl _ _ rfl _ _ rfl 4 _ _ rfl _ rfl rfl ?_) | (refine sN_loadA hS rfl _ _ rfl _ _ rfl 5 _ _ rfl _ rfl rfl ?_)) | ((with_reducible refine gN_slice ?_); refine sN_slice rfl _ _ _ _ _ rfl _ _ _ rfl (a + d) (n) (vc) (by first | rfl | (show _ = _; omega) | (show _ = _; simp; done) | (show _ = _; simp; omega)) (by first | rfl | (show _ = _; omega) | (show _ = _; simp; done) | (show _ = _; simp; omega)) (by first | rfl | (show _ = _; omega) | (show _ = _; simp; done) | (show _ = _; simp; omega)) (by omega) (by omega) (by omega) (by simp) ?_) | (first | with_reducible refine wpIn_scope_straight ?_ | with_reducible refine wpIn_label ?_ | ((with_reducible refine gN_load ?_); first | (refine sN_load hS rfl _ _ rfl _ _ rfl 0 _ _ rfl _ rfl ?_) | (refine sN_load hS rfl _ _ rfl _ _ rfl 1 _ _ rfl _ rfl ?_) | (refine sN_load hS rfl _ _ rfl _ _ rfl 2 _ _ rfl _ rfl ?_) | (refine sN_load hS rfl _ _ rfl _ _ rfl 3 _ _ rfl _ rfl ?_) | (refine sN_load hS rfl _ _ rfl _ _ rfl 4 _ _ rfl _ rfl ?_) | (refine sN_load hS rfl _ _ rfl _ _ rfl 5 _ _ rfl _ rfl ?_) | (refine sN_loadA hS rfl _ _ rfl _ _ rfl 0 _ _ rfl _ rfl rfl ?_) | (refine sN_loadA hS rfl _ _ rfl _ _ rfl 1 _ _ rfl _ rfl rfl ?_) | (refine sN_loadA hS rfl _ _ rfl _ _ rfl 2 _ _ rfl _ rfl rfl ?_) | (refine sN_loadA hS rfl _ _ rfl _ _ rfl 3 _ _ rfl _ rfl rfl ?_) | (refine sN_loadA hS rfl _ _ rfl _ _ rfl 4 _ _ rfl _ rfl rfl ?_) | (refine sN_loadA hS rfl _ _ rfl _ _ rfl 5 _ _ rfl _ rfl rfl ?_)) | ((with_reducible refine gN_store ?_); first | (refine sN_store hS rfl _ _ _ rfl _ _ rfl 0 _ _ rfl _ (by go_simp; first | exact rfl | exact ⟨rfl, rfl⟩) rfl (by simp) ?_; clear hS; intro w' hS; simp only [List.set_cons_zero] at hS) | (refine sN_store hS rfl _ _ _ rfl _ _ rfl 1 _ _ rfl _ (by go_simp; first | exact rfl | exact ⟨rfl, rfl⟩) rfl (by simp) ?_; clear hS; intro w' hS; simp only [List.set_cons_zero, List.set_cons_succ] at hS) | (refine sN_store hS rfl _ _ _ rfl _ _ rfl 2 _ _ rfl _ (by go_simp; first | exact rfl | exact ⟨rfl, rfl⟩) rfl (by simp) ?_; clear hS; intro w' hS; simp only [List.set_cons_zero, List.set_cons_succ] at hS) | (refine sN_store hS rfl _ _ _ rfl _ _ rfl 3 _ _ rfl _ (by go_simp; first | exact rfl | exact ⟨rfl, rfl⟩) rfl (by simp) ?_; clear hS; intro w' hS; simp only [List.set_cons_zero, List.set_cons_succ] at hS) | (refine sN_store hS rfl _ _ _ rfl _ _ rfl 4 _ _ rfl _ (by go_simp; first | exact rfl | exact ⟨rfl, rfl⟩) rfl (by simp) ?_; clear hS; intro w' hS; simp only [List.set_cons_zero, List.set_cons_succ] at hS) | (refine sN_store hS rfl _ _ _ rfl _ _ rfl 5 _ _ rfl _ (by go_simp; first | exact rfl | exact ⟨rfl, rfl⟩) rfl (by simp) ?_; clear hS; intro w' hS; simp only [List.set_cons_zero, List.set_cons_succ] at hS) | (refine sN_storeB hS rfl _ _ _ rfl _ rfl 0 _ _ rfl _ (by go_simp; first | exact rfl | exact ⟨rfl, rfl⟩) (by rfl) (by rfl) (by simp [Value.oneCell']) ?_; clear hS; intro w' hS; simp only [List.set_cons_zero] at hS) | (refine sN_storeB hS rfl _ _ _ rfl _ rfl 1 _ _ rfl _ (by go_simp; first | exact rfl | exact ⟨rfl, rfl⟩) (by rfl) (by rfl) (by simp [Value.oneCell']) ?_; clear hS; intro w' hS; simp only [List.set_cons_zero, List.set_cons_succ] at hS) | (refine sN_storeB hS rfl _ _ _ rfl _ rfl 2 _ _ rfl _ (by go_simp; first | exact rfl | exact ⟨rfl, rfl⟩) (by rfl) (by rfl) (by simp [Value.oneCell']) ?_; clear hS; intro w' hS; simp only [List.set_cons_zero, List.set_cons_succ] at hS) | (refine sN_storeB hS rfl _ _ _ rfl _ rfl 3 _ _ rfl _ (by go_simp; first | exact rfl | exact ⟨rfl, rfl⟩) (by rfl) (by rfl) (by simp [Value.oneCell']) ?_; clear hS; intro w' hS; simp only [List.set_cons_zero, List.set_cons_succ] at hS) | (refine sN_storeB hS rfl _ _ _ rfl _ rfl 4 _ _ rfl _ (by go_simp; first | exact rfl | exact ⟨rfl, rfl⟩) (by rfl) (by rfl) (by simp [Value.oneCell']) ?_; clear hS; intro w' hS; simp only [List.set_cons_zero, List.set_cons_succ] at hS) | (refine sN_storeB hS rfl _ _ _ rfl _ rfl 5 _ _ rfl _ (by go_simp; first | exact rfl | exact ⟨rfl, rfl⟩) (by rfl) (by rfl) (by simp [Value.oneCell']) ?_; clear hS; intro w' hS; simp only [List.set_cons_zero, List.set_cons_succ] at hS)) | ((with_reducible refine gN_alloc ?_); (refine sN_alloc hS rfl _ rfl ?_; clear hS; intro b w' hb hS)) | ((with_reducible refine gN_box ?_); (refine sN_box hS rfl _ _ rfl _ (by go_simp; first | exact rfl | exact ⟨rfl, rfl⟩) ?_; clear hS; intro b w' hb hS))))
            refine ⟨?_, ?_⟩
            · refine ⟨_, _, _, _, _, _, _, _, _, _, _, _, _, _, _, _, _, _, _, _, _, _, _, _, _, _, _, _, _, _, _, _, _, _, _, _, _, _, _, ⟨_, s.drop (a + d), pre ++ [((⟨c, q⟩, true) : OpS × Bool)], J2, B2, hnext, by rw [hnl]; omega, ?_, hleJ.trans (hleK.trans hle2), hS, hI2⟩, rfl⟩
              rw [← Hxs.out, List.append_assoc]; rfl
            · rw [hmeas, lenW_eq (hS.blkCell 0 rfl 0 rfl)]; omega
          · gi_wp2_with fail
            exact bodyPost_ret (results_none rfl _ _ _) rfl ⟨⟨_, rfl⟩, J2, B2, hS2.drop, .inr ⟨_, hpre, hb2⟩⟩
end Go.Proofs.YtmlgieclkedomaaGreat
