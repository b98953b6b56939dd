/- What the statement's proof stands on, part 4: contracts of the program's functions, and plain laws. -/
import Derived.WalkSmall
import Derived.Recover
import Derived.Test.YtmlgieclkedomaaGreatPushes1
import Derived.Test.YtmlgieclkedomaaGreatPushes2
import Derived.Test.YtmlgieclkedomaaGreatPushes3
set_option linter.unusedVariables false
set_option linter.unusedSimpArgs false
namespace Go.Proofs.YtmlgieclkedomaaGreat
open Go Go.RowKit
attribute [local irreducible] mixW blocksW

def be8 (x : Nat) : Bs := (List.range 8).map fun i => UInt8.ofNat (x / 256 ^ (7 - i))
def padZ (k : Nat) : Nat := (119 - k % 64) % 64
def padM (k m : Nat) : Bs := 128 :: (List.replicate (padZ k) 0 ++ be8 (m * 8))
def outW (s : List UInt32) : Bs := s.flatMap outB4
def endH (s : List UInt32) (r : Bs) (m : Nat) : Bs := if s = zero8 then List.replicate 32 0 else outW (blocksW s ((r ++ padM r.length m).length / 64) (r ++ padM r.length m))
theorem outW_len (s : List UInt32) : (outW s).length = 4 * s.length := by
  induction s with
  | nil => rfl
  | cons a s ih => simp only [outW, List.flatMap_cons, List.length_append, outB4, List.length_cons, List.length_nil] at ih ⊢; omega
theorem outW_get (q ρ : Nat) (h : ρ < 4) : ∀ (s : List UInt32), q < s.length → (outW s)[4 * q + ρ]? = (outB4 (s.getD q 0))[ρ]? := by
  induction q with
  | zero =>
    intro s hs
    match s, hs with
    | a :: s, _ => simp only [outW, List.flatMap_cons, List.getD_cons_zero, Nat.mul_zero, Nat.zero_add]; rw [List.getElem?_append_left (by simpa [outB4] using h)]
  | succ q ih =>
    intro s hs
    match s, hs with
    | a :: s, hs =>
      have := ih s (by simpa using hs)
      simp only [outW, List.flatMap_cons, List.getD_cons_succ] at this ⊢
      rw [List.getElem?_append_right (by simp [outB4]; omega), ← this]
      congr 1
      simp [outB4]; omega
def lenV : Value → Nat
  | .slice _ n _ => n
  | _ => 0
theorem lenV_eq (ad : Option Addr) (n c : Nat) : lenV (.slice ad n c) = n := rfl
attribute [irreducible] lenV
theorem padZ_iff {k i : Nat} (h : i ≤ padZ k) : (k + (i + 1) + 8) % 64 = 0 ↔ i = padZ k := by unfold padZ at *; omega
theorem padZ_lt (k : Nat) : padZ k < 64 := by unfold padZ; omega
attribute [local irreducible] padZ
theorem bvs_rep (n : Nat) (b : UInt8) : bvs (List.replicate n b) = List.replicate n (bv b) := by simp [bvs]
theorem out_step {out : Bs} {i : Nat} (hi : i < 32) (ho : out.length = 32) : (bvs (out.take i ++ List.replicate (32 - i) 0)).set i (bv (out.getD i 0)) = bvs (out.take (i + 1) ++ List.replicate (32 - (i + 1)) 0) := by
  have e : bv (out.getD i 0) :: List.replicate (32 - (i + 1)) (bv 0) = bvs (out.getD i 0 :: List.replicate (32 - (i + 1)) 0) := by simp [bvs]
  rw [bvs_app, bvs_rep, List.set_append_right _ _ (by simp [bvs]; omega), show 32 - i = (32 - (i + 1)) + 1 by omega, List.replicate_succ]
  rw [show i - (bvs (out.take i)).length = 0 by simp [bvs]; omega, List.set_cons_zero, e, ← bvs_app, List.take_succ_eq_append_getElem (by omega)]
  simp [List.getD_eq_getElem?_getD, List.getElem?_eq_getElem (show i < out.length by omega)]
  rw [List.take_succ_eq_append_getElem (i := i) (l := List.map bv out) (by simp; omega)]
  simp

theorem be8_step (x j : Nat) (hj : j < 8) (p : Bs) (e : Int) (he : e = ((x / 256 ^ (7 - j) % 256 : Nat) : Int)) : bvs (p ++ (be8 x).take j) ++ [Value.int .u8 e] = bvs (p ++ (be8 x).take (j + 1)) := by
  have h : (be8 x).take (j + 1) = (be8 x).take j ++ [UInt8.ofNat (x / 256 ^ (7 - j))] := by
    rw [List.take_succ_eq_append_getElem (by simpa [be8] using hj)]; simp [be8]
  rw [h, ← List.append_assoc, bvs_app (p ++ _), he]
  simp [bvs, bv]
theorem be8_len (x : Nat) : (be8 x).length = 8 := by simp [be8]
attribute [local irreducible] be8 outW
/-- a sum that was not made: 32 zeros -/
theorem End0_spec {I : Imm} {w : World} {sp : Nat} {s : List UInt32} {ra : Option Addr} {rn rc m : Nat} (hin : Init I [sumI sp s ra rn rc m] w) (hs : s.length = 8) (hz : s = zero8) :
    Calls Tryz.prog 79 #[.pointer (some ⟨sp, 0, none⟩)] w fun e w' => e = .returned (hashV (List.replicate 32 0)) ∧ Nx [sumI sp s ra rn rc m] I w I [sumI sp s ra rn rc m] w' := by
  have hS := hin.nx
  have hd : decide (s = zero8) = true := by simpa using hz
  go_enter Tryz.func79, Tryz.ntmps79
  go_wp2_with (first | ((refine sL_alloc hS rfl 37 rfl ?_; clear hS; intro b2 w' hb2 hS); refine Stop.of ?_))
  refine Stop.to ?_
  go_wp2_with (first | ((refine sL_alloc hS rfl 37 rfl ?_; clear hS; intro b3 w' hb3 hS); refine Stop.of ?_))
  refine Stop.to ?_
  go_wp2_with (first | (go_at_call 97; refine (none_spec hs (fun i u hu => hS.blkCell 2 rfl _ (by rw [Nat.zero_add, List.getElem?_append_left (List.getElem?_eq_some_iff.1 hu).1]; exact hu))).mono ?_; rintro e w' ⟨rfl, rfl⟩; rw [hd]) | (first | ((with_reducible refine gL_load ?_); first | (refine sL_load hS rfl _ _ rfl _ _ rfl 0 _ _ rfl _ rfl ?_) | (refine sL_load hS rfl _ _ rfl _ _ rfl 1 _ _ rfl _ rfl ?_) | (refine sL_load hS rfl _ _ rfl _ _ rfl 2 _ _ rfl _ rfl ?_) | (refine sL_load hS rfl _ _ rfl _ _ rfl 3 _ _ rfl _ rfl ?_) | (refine sL_load hS rfl _ _ rfl _ _ rfl 4 _ _ rfl _ rfl ?_) | (refine sL_load hS rfl _ _ rfl _ _ rfl 5 _ _ rfl _ rfl ?_) | (refine sL_loadA hS rfl _ _ rfl _ _ rfl 0 _ _ rfl _ rfl rfl ?_) | (refine sL_loadA hS rfl _ _ rfl _ _ rfl 1 _ _ rfl _ rfl rfl ?_) | (refine sL_loadA hS rfl _ _ rfl _ _ rfl 2 _ _ rfl _ rfl rfl ?_) | (refine sL_loadA hS rfl _ _ rfl _ _ rfl 3 _ _ rfl _ rfl rfl ?_) | (refine sL_loadA hS rfl _ _ rfl _ _ rfl 4 _ _ rfl _ rfl rfl ?_) | (refine sL_loadA hS rfl _ _ rfl _ _ rfl 5 _ _ rfl _ rfl rfl ?_)) | ((with_reducible refine gL_store ?_); first | (refine sL_store hS rfl _ _ _ rfl _ _ rfl 0 _ _ rfl _ (by go_simp; first | exact rfl | exact ⟨rfl, rfl⟩) rfl (by simp) ?_; clear hS; intro w' hS; simp only [List.set_cons_zero] at hS) | (refine sL_store hS rfl _ _ _ rfl _ _ rfl 1 _ _ rfl _ (by go_simp; first | exact rfl | exact ⟨rfl, rfl⟩) rfl (by simp) ?_; clear hS; intro w' hS; simp only [List.set_cons_zero, List.set_cons_succ] at hS) | (refine sL_store hS rfl _ _ _ rfl _ _ rfl 2 _ _ rfl _ (by go_simp; first | exact rfl | exact ⟨rfl, rfl⟩) rfl (by simp) ?_; clear hS; intro w' hS; simp only [List.set_cons_zero, List.set_cons_succ] at hS) | (refine sL_store hS rfl _ _ _ rfl _ _ rfl 3 _ _ rfl _ (by go_simp; first | exact rfl | exact ⟨rfl, rfl⟩) rfl (by simp) ?_; clear hS; intro w' hS; simp only [List.set_cons_zero, List.set_cons_succ] at hS) | (refine sL_store hS rfl _ _ _ rfl _ _ rfl 4 _ _ rfl _ (by go_simp; first | exact rfl | exact ⟨rfl, rfl⟩) rfl (by simp) ?_; clear hS; intro w' hS; simp only [List.set_cons_zero, List.set_cons_succ] at hS) | (refine sL_store hS rfl _ _ _ rfl _ _ rfl 5 _ _ rfl _ (by go_simp; first | exact rfl | exact ⟨rfl, rfl⟩) rfl (by simp) ?_; clear hS; intro w' hS; simp only [List.set_cons_zero, List.set_cons_succ] at hS) | (refine sL_storeB hS rfl _ _ _ rfl _ rfl 0 _ _ rfl _ (by go_simp; first | exact rfl | exact ⟨rfl, rfl⟩) (by rfl) (by rfl) (by simp [Value.oneCell']) ?_; clear hS; intro w' hS; simp only [List.set_cons_zero] at hS) | (refine sL_storeB hS rfl _ _ _ rfl _ rfl 1 _ _ rfl _ (by go_simp; first | exact rfl | exact ⟨rfl, rfl⟩) (by rfl) (by rfl) (by simp [Value.oneCell']) ?_; clear hS; intro w' hS; simp only [List.set_cons_zero, List.set_cons_succ] at hS) | (refine sL_storeB hS rfl _ _ _ rfl _ rfl 2 _ _ rfl _ (by go_simp; first | exact rfl | exact ⟨rfl, rfl⟩) (by rfl) (by rfl) (by simp [Value.oneCell']) ?_; clear hS; intro w' hS; simp only [List.set_cons_zero, List.set_cons_succ] at hS) | (refine sL_storeB hS rfl _ _ _ rfl _ rfl 3 _ _ rfl _ (by go_simp; first | exact rfl | exact ⟨rfl, rfl⟩) (by rfl) (by rfl) (by simp [Value.oneCell']) ?_; clear hS; intro w' hS; simp only [List.set_cons_zero, List.set_cons_succ] at hS) | (refine sL_storeB hS rfl _ _ _ rfl _ rfl 4 _ _ rfl _ (by go_simp; first | exact rfl | exact ⟨rfl, rfl⟩) (by rfl) (by rfl) (by simp [Value.oneCell']) ?_; clear hS; intro w' hS; simp only [List.set_cons_zero, List.set_cons_succ] at hS) | (refine sL_storeB hS rfl _ _ _ rfl _ rfl 5 _ _ rfl _ (by go_simp; first | exact rfl | exact ⟨rfl, rfl⟩) (by rfl) (by rfl) (by simp [Value.oneCell']) ?_; clear hS; intro w' hS; simp only [List.set_cons_zero, List.set_cons_succ] at hS)) | ((with_reducible refine gL_alloc ?_); (refine sL_alloc hS rfl _ rfl ?_; clear hS; intro b w' hb hS)) | ((with_reducible refine gL_box ?_); (refine sL_box hS rfl _ _ rfl _ (by go_simp; first | exact rfl | exact ⟨rfl, rfl⟩) ?_; clear hS; intro b w' hb hS))))
  exact bodyPost_ret (res_c rfl hS rfl 1 rfl rfl) rfl ⟨rfl, hS.drop.drop⟩

set_option maxRecDepth 100000 in
theorem End1_spec {I : Imm} {w : World} {sp : Nat} {s : List UInt32} {ra : Option Addr} {rn rc m : Nat} (hin : Init I [sumI sp s ra rn rc m] w) (hs : s.length = 8) (hz : s ≠ zero8) {r : Bs} (hr : RdB I (.slice ra rn rc) r) (hrl : r.length ≤ 1000) (hm : m ≤ 500000000) :
    Calls Tryz.prog 79 #[.pointer (some ⟨sp, 0, none⟩)] w fun e w' => ∃ J, e = .returned (hashV (outW (blocksW s ((r ++ padM r.length m).length / 64) (r ++ padM r.length m)))) ∧ Nx [sumI sp s ra rn rc m] I w J [sumI sp s ra rn rc m] w' := by
  have hS := hin.nx
  have hd : decide (s = zero8) = false := by simpa using hz
  have hsl : (wvs s).length = 8 := by simp [wvs, hs]
  have h9 : ∀ (x y : Value), (wvs s ++ [x, y])[9]? = some y := fun x y => by rw [List.getElem?_append_right (by omega), hsl]; rfl
  have h8 : ∀ (x y : Value), (wvs s ++ [x, y])[8]? = some x := fun x y => by rw [List.getElem?_append_right (by omega), hsl]; rfl
  obtain ⟨out, hout⟩ : ∃ out, out = outW (blocksW s ((r ++ padM r.length m).length / 64) (r ++ padM r.length m)) := ⟨_, rfl⟩
  rw [← hout]
  have Hout := Lib.hid hout
  clear hout
  go_enter Tryz.func79, Tryz.ntmps79
  go_wp2_with (first | ((refine sL_alloc hS rfl 37 rfl ?_; clear hS; intro b2 w' hb2 hS); refine Stop.of ?_))
  refine Stop.to ?_
  go_wp2_with (first | ((refine sL_alloc hS rfl 37 rfl ?_; clear hS; intro b3 w' hb3 hS); refine Stop.of ?_))
  refine Stop.to ?_
  go_wp2_with (first | (go_at_call 97; refine (none_spec hs (fun i u hu => hS.blkCell 2 rfl _ (by rw [Nat.zero_add, List.getElem?_append_left (List.getElem?_eq_some_iff.1 hu).1]; exact hu))).mono ?_; rintro e w' ⟨rfl, rfl⟩; rw [hd]))
  replace hS := hS.drew
  refine rg_start (fun w => w.cell? ⟨sp, 9, none⟩ = some (.int .u64 m)) [1, 7] (by kernel_rfl) ?_
  -- P0 P2 P3 P4 L5 P6 S1 P7 P8
  (refine rg_pure (v := ?v0u1) 0 rfl (by kernel_rfl) (fun _ _ _ h => h) rfl ?hy0u1 ?rest0u1; (case hy0u1 => (intro w; go_simp; try with_reducible rfl)); (try simp only [Act.put, List.setIfInBounds_toArray, List.set_cons_zero, List.set_cons_succ]))
  (refine rg_pure (v := ?v2u1) 2 rfl (by kernel_rfl) (fun _ _ _ h => h) rfl ?hy2u1 ?rest2u1; (case hy2u1 => (intro w; go_simp; try with_reducible rfl)); (try simp only [Act.put, List.setIfInBounds_toArray, List.set_cons_zero, List.set_cons_succ]))
  (refine rg_pure (v := ?v3u1) 3 rfl (by kernel_rfl) (fun _ _ _ h => h) rfl ?hy3u1 ?rest3u1; (case hy3u1 => (intro w; go_simp; try with_reducible rfl)); (try simp only [Act.put, List.setIfInBounds_toArray, List.set_cons_zero, List.set_cons_succ]))
  (refine rg_pure (v := ?v4u1) 4 rfl (by kernel_rfl) (fun _ _ _ h => h) rfl ?hy4u1 ?rest4u1; (case hy4u1 => (intro w; go_simp; try with_reducible rfl)); (try simp only [Act.put, List.setIfInBounds_toArray, List.set_cons_zero, List.set_cons_succ]))
  ((first | (refine rg_load 5 rfl (by kernel_rfl) rfl (by first | exact hS.blkCell 2 rfl 9 (h9 _ _) | exact hS.blkCell 3 rfl 9 (h9 _ _)) _ _ rfl _ _ rfl _ (fun w hS => hS) (fun _ _ _ h => h) ?_)); (try simp only [Act.put, List.setIfInBounds_toArray, List.set_cons_zero, List.set_cons_succ]))
  (refine rg_pure (v := ?v6u1) 6 rfl (by kernel_rfl) (fun _ _ _ h => h) rfl ?hy6u1 ?rest6u1; (case hy6u1 => (intro w; go_simp; try with_reducible rfl)); (try simp only [Act.put, List.setIfInBounds_toArray, List.set_cons_zero, List.set_cons_succ]))
  (refine rg_step 1 rfl (by kernel_rfl) (fun K' hK => ?_); go_wp2_with (first | (go_at_call 100; refine (Copy_spec (Init.right (L := [_, _]) hS.toInit) hs hz hr (by omega)).mono ?_; rintro e w' ⟨cb, J, ra', rc', rfl, hrd, hn⟩; have hleJ := hn.le hS.hI; replace hS := Nx.callTail (L2 := [_, _]) hS hn; clear hn; simp only [List.set_cons_zero, List.set_cons_succ, List.cons_append, List.nil_append] at hS)); (try with_reducible refine rg_back ?_); refine hK.out _ _ (fun _ => by first | exact hS.blkCell 2 rfl 9 (h9 _ _) | exact hS.blkCell 3 rfl 9 (h9 _ _)) ?_; clear hK; clear K'; (try simp only [Act.put, List.setIfInBounds_toArray, List.set_cons_zero, List.set_cons_succ]))
  (refine rg_pureS (v := ?v7u1) 7 rfl (by kernel_rfl) (fun _ _ _ h => h) rfl (by first | exact hS.blkCell 2 rfl 9 (h9 _ _) | exact hS.blkCell 3 rfl 9 (h9 _ _)) ?hy7u1 ?rest7u1; (case hy7u1 => (intro w; go_simp; try with_reducible rfl)); (try simp only [Act.put, List.setIfInBounds_toArray, List.set_cons_zero, List.set_cons_succ]))
  (refine rg_pure (v := ?v8u1) 8 rfl (by kernel_rfl) (fun _ _ _ h => h) rfl ?hy8u1 ?rest8u1; (case hy8u1 => (intro w; go_simp; try with_reducible rfl)); (try simp only [Act.put, List.setIfInBounds_toArray, List.set_cons_zero, List.set_cons_succ]))
  refine rg_done (by kernel_rfl) ?_
  go_wp2_with (first | ((with_reducible refine gL_lit ?_); first | (refine sL_lit0 hS rfl _ rfl ?_; clear hS; intro lb w' hlb hS) | (refine sL_lit1 hS rfl _ _ rfl _ (by go_simp; first | exact rfl | exact ⟨rfl, rfl⟩) rfl ?_; clear hS; intro lb w' hlb hS) | (refine sL_lit2 hS rfl _ _ _ rfl _ _ (by go_simp; first | exact rfl | exact ⟨rfl, rfl⟩) (by go_simp; first | exact rfl | exact ⟨rfl, rfl⟩) rfl rfl ?_; clear hS; intro lb w' hlb hS) | (refine sL_lit12 hS rfl _ _ rfl _ _ (by go_simp; first | exact rfl | exact ⟨rfl, rfl⟩) ?_; clear hS; intro lb w' hlb hS)))
  replace hS := hS.litRow 1 1 rfl (by decide)
  obtain ⟨Z, hZ⟩ : ∃ Z, Z = padZ r.length := ⟨_, rfl⟩
  have hZl : Z < 64 := by rw [hZ]; exact padZ_lt _
  have HZ := Lib.hid hZ
  clear hZ
  go_loopw [6] (fun v6 wr => ∃ i a c, i ≤ Z ∧ v6 = .slice a (i + 1) c ∧ Nx [sumI sp s ra rn rc m] I w J [.row 1 5 (.slice a (i + 1) c) (i + 1) (bvs (128 :: List.replicate i 0)), .blk b3 (List.replicate 32 (.int .u8 0)) 37, .blk b2 (List.replicate 32 (.int .u8 0)) 37, sumI cb s ra' r.length rc' m, sumI sp s ra rn rc m] wr) (fun v6 _ => 100 - lenV v6)
  case atStart => exact ⟨0, _, _, by omega, rfl, hS⟩
  case round =>
    clear hS
    obtain ⟨i, a, c, hi, rfl, hS⟩ := hrel
    have hiff := padZ_iff (k := r.length) (i := i) (by rw [← HZ.out]; exact hi)
    rw [← HZ.out] at hiff
    by_cases hlt : i < Z
    · have hrem : ¬ ((r.length : Int) + (i + 1) + 8) % 64 = 0 := fun h => by have := hiff.1 (by omega); omega
      clear hiff
      go_wp2_with (first | ((with_reducible refine gL_load ?_); refine sL_load hS rfl _ _ rfl _ _ rfl 3 _ _ rfl _ (h8 _ _) ?_) | ((with_reducible refine gL_lit ?_); first | (refine sL_lit0 hS rfl _ rfl ?_; clear hS; intro lb2 w' hlb2 hS) | (refine sL_lit1 hS rfl _ _ rfl _ (by go_simp; first | exact rfl | exact ⟨rfl, rfl⟩) rfl ?_; clear hS; intro lb2 w' hlb2 hS) | (refine sL_lit2 hS rfl _ _ _ rfl _ _ (by go_simp; first | exact rfl | exact ⟨rfl, rfl⟩) (by go_simp; first | exact rfl | exact ⟨rfl, rfl⟩) rfl rfl ?_; clear hS; intro lb2 w' hlb2 hS) | (refine sL_lit12 hS rfl _ _ rfl _ _ (by go_simp; first | exact rfl | exact ⟨rfl, rfl⟩) ?_; clear hS; intro lb2 w' hlb2 hS)) | ((with_reducible refine gL_app ?_); (refine sL_append hS rfl _ _ _ rfl 1 _ _ _ rfl rfl _ _ _ _ rfl (by first | (simp; done) | (simp only [List.length_map]; omega)) (hS.srcBlk (i := 0) rfl) (by simp [Value.oneCell']) (by first | omega | (simp only [List.length_append, List.length_cons, List.length_nil]; omega)) ?_; clear hS; intro ad' c' w' hS hnil hown; simp only [List.set_cons_zero, List.set_cons_succ] at hS; replace hS := hS.drop)))
      have e : bvs (128 :: List.replicate i 0) ++ [Value.int .u8 0] = bvs (128 :: List.replicate (i + 1) 0) := by rw [List.replicate_succ']; simp [bvs, bv]
      rw [e] at hS
      refine ⟨⟨i + 1, _, _, hlt, rfl, hS⟩, ?_⟩
      rw [lenV_eq, lenV_eq]; omega
    · have hrem : ((r.length : Int) + (i + 1) + 8) % 64 = 0 := by have := hiff.2 (by omega); omega
      obtain rfl : i = Z := by omega
      clear hiff
      go_wp2_with (first | ((with_reducible refine gL_load ?_); refine sL_load hS rfl _ _ rfl _ _ rfl 3 _ _ rfl _ (h8 _ _) ?_))
      go_loopw [6, 7] (fun v6 v7 wr => ∃ j a c, j ≤ 8 ∧ v7 = .int .i64 (7 - (j : Nat)) ∧ v6 = .slice a (i + 1 + j) c ∧ Nx [sumI sp s ra rn rc m] I w J [.row 1 5 (.slice a (i + 1 + j) c) (i + 1 + j) (bvs (128 :: List.replicate i 0 ++ (be8 (m * 8)).take j)), .blk b3 (List.replicate 32 (.int .u8 0)) 37, .blk b2 (List.replicate 32 (.int .u8 0)) 37, sumI cb s ra' r.length rc' m, sumI sp s ra rn rc m] wr) (fun v6 _ _ => 200 - lenV v6)
      case atStart => exact ⟨0, _, _, by omega, rfl, rfl, by simpa using hS⟩
      case round =>
        clear hS
        obtain ⟨j, a, c, hj, rfl, rfl, hS⟩ := hrel
        by_cases hlt : j < 8
        · have hstep := be8_step (m * 8) j hlt (128 :: List.replicate i 0)
          have Hstep := Lib.hid hstep
          clear hstep hrem
          obtain rfl | rfl | rfl | rfl | rfl | rfl | rfl | rfl : j = 0 ∨ j = 1 ∨ j = 2 ∨ j = 3 ∨ j = 4 ∨ j = 5 ∨ j = 6 ∨ j = 7 := by omega
          all_goals
            go_wp2_with (first | ((with_reducible refine gL_lit ?_); first | (refine sL_lit0 hS rfl _ rfl ?_; clear hS; intro lb2 w' hlb2 hS) | (refine sL_lit1 hS rfl _ _ rfl _ (by go_simp; first | exact rfl | exact ⟨rfl, rfl⟩) rfl ?_; clear hS; intro lb2 w' hlb2 hS) | (refine sL_lit2 hS rfl _ _ _ rfl _ _ (by go_simp; first | exact rfl | exact ⟨rfl, rfl⟩) (by go_simp; first | exact rfl | exact ⟨rfl, rfl⟩) rfl rfl ?_; clear hS; intro lb2 w' hlb2 hS) | (refine sL_lit12 hS rfl _ _ rfl _ _ (by go_simp; first | exact rfl | exact ⟨rfl, rfl⟩) ?_; clear hS; intro lb2 w' hlb2 hS)) | ((with_reducible refine gL_app ?_); (refine sL_append hS rfl _ _ _ rfl 1 _ _ _ rfl rfl _ _ _ _ rfl (by first | (simp; done) | (simp only [List.length_map]; omega)) (hS.srcBlk (i := 0) rfl) (by simp [Value.oneCell']) (by first | omega | (simp only [List.length_append, List.length_cons, List.length_nil]; omega)) ?_; clear hS; intro ad' c' w' hS hnil hown; simp only [List.set_cons_zero, List.set_cons_succ] at hS; replace hS := hS.drop)))
            rw [Hstep.out _ ?he] at hS
            case he => simp only [Nat.reduceSub, Nat.reducePow, Nat.pow_zero, Nat.div_one]; omega
            refine ⟨⟨_, _, _, hlt, by simp, rfl, hS⟩, ?_⟩
            simp only [lenV_eq]; omega
        · obtain rfl : j = 8 := by omega
          rw [List.take_of_length_le (Nat.le_of_eq (be8_len _))] at hS
          go_wp2_with fail
          clear hrem
          obtain ⟨K, hS1, hleK, hrdp⟩ := hS.freezeRowS (by simp [blocks, Item.block])
          clear hS
          have hS := hS1
          clear hS1
          obtain ⟨pad, hpad⟩ : ∃ pad, pad = padM r.length m := ⟨_, rfl⟩
          have hpe : 128 :: List.replicate i 0 ++ be8 (m * 8) = pad := by rw [hpad, HZ.out]; rfl
          have hpl : pad.length = i + 1 + 8 := by rw [← hpe]; simp [be8_len]
          have hrp : RdB K (.slice a (i + 1 + 8) c) pad := hrdp.asB pad (by rw [hpe]) _ rfl hpl
          clear hrdp
          replace hS := hS.front 2 rfl
          simp only [List.eraseIdx_cons_succ, List.eraseIdx_cons_zero] at hS
          rw [← hpad] at Hout
          have hNl : (r ++ pad).length = r.length + (i + 1 + 8) := by rw [List.length_append, hpl]
          clear hpe hpad
          refine (Write_spec (hS.toInit.left (L := [_])) hs hz (hrd.mono hleK) hrp (by omega) (by omega)).mono ?_
          rintro e w' ⟨rfl, K2, ra2, rn2, rc2, -, hn⟩
          replace hS := Nx.call (L1 := [_]) hS hn
          clear hn
          simp only [List.set_cons_zero, List.set_cons_succ, List.cons_append, List.nil_append] at hS
          obtain ⟨st, hst⟩ : ∃ st, st = blocksW s ((r ++ pad).length / 64) (r ++ pad) := ⟨_, rfl⟩
          rw [← hst] at hS Hout
          have hsl2 : st.length = 8 := by rw [hst]; exact blocksW_len _ hs _
          have hol : out.length = 32 := by rw [Hout.out, outW_len, hsl2]
          generalize m + pad.length = m2 at hS
          clear hst hNl
          go_wp2_with fail
          have e0 : List.replicate 32 (Value.int .u8 0) = bvs (out.take 0 ++ List.replicate (32 - 0) 0) := by simp [bvs, bv]
          go_loopw [49] (fun v49 wr => ∃ i, i ≤ 32 ∧ v49 = .int .i64 (i : Nat) ∧ Nx [sumI sp s ra rn rc m] I w K2 [sumI cb st ra2 rn2 rc2 m2, .blk b3 (bvs (out.take i ++ List.replicate (32 - i) 0)) 37, .blk b2 (List.replicate 32 (.int .u8 0)) 37, sumI sp s ra rn rc m] wr) (fun v49 _ => 32 - (intOf v49).toNat)
          case atStart => exact ⟨0, by omega, rfl, by rw [← e0]; exact hS⟩
          case round =>
            clear hS
            obtain ⟨i, hi, rfl, hS⟩ := hrel
            by_cases hlt : i < 32
            · have hq : i / 4 < st.length := by omega
              have hcell : (wvs st ++ [Value.slice ra2 rn2 rc2, .int .u64 m2])[i / 4]? = some (.int .u32 ((st.getD (i / 4) 0).toNat : Nat)) := by
                rw [List.getElem?_append_left (by simp [wvs]; omega)]; exact wvs_get st _ hq
              have hget := fun ρ h => outW_get (i / 4) ρ h st hq
              rw [← Hout.out] at hget
              have hstep := out_step (out := out) hlt hol
              obtain ⟨q, hqq⟩ : ∃ q, q = i / 4 := ⟨_, rfl⟩
              rw [← hqq] at hcell hget
              generalize st.getD q 0 = x at hcell hget
              have hi4 : (i : Int) / 4 = (q : Nat) := by omega
              have hq8 : (q : Int) < 8 := by omega
              have hgd : ∀ ρ b, i = 4 * q + ρ → ρ < 4 → (outB4 x)[ρ]? = some b → out.getD i 0 = b := fun ρ b h1 h2 h3 => by
                rw [List.getD_eq_getElem?_getD, h1, hget ρ h2, h3]; rfl
              have hlen : i < (bvs (out.take i ++ List.replicate (32 - i) 0)).length := by simp [bvs]; omega
              have hsetE : ∀ E : Int, E = ((out.getD i 0).toNat : Int) → (bvs (out.take i ++ List.replicate (32 - i) 0)).set i (.int .u8 E) = bvs (out.take (i + 1) ++ List.replicate (32 - (i + 1)) 0) := fun E hE => by rw [hE]; exact hstep
              have Hstep := Lib.hid hsetE
              clear hsetE
              have Hgd := Lib.hid hgd
              clear hstep hgd hget hq
              have hqi : q = i / 4 := hqq
              have Hqi := Lib.hid hqi
              clear hqi hqq
              have h4 : i % 4 = 0 ∨ i % 4 = 1 ∨ i % 4 = 2 ∨ i % 4 = 3 := by omega
              rcases h4 with h4 | h4 | h4 | h4
              · have hm4 : (i : Int) % 4 = 0 := by omega
                go_wp2_with (first | ((with_reducible refine gL_load ?_); refine sL_load hS rfl _ _ rfl _ _ rfl 0 _ _ rfl _ hcell ?_) | ((with_reducible refine gL_store ?_); refine sL_store hS rfl _ _ _ rfl _ _ rfl 1 _ _ rfl _ (by go_simp; exact rfl) rfl hlen ?_; clear hS; intro w' hS; simp only [List.set_cons_zero, List.set_cons_succ] at hS))
                rw [Hstep.out _ ?he] at hS
                case he =>
                  rw [Hgd.out 0 _ (by have := Hqi.out; omega) (by omega) rfl]
                  simp
                refine ⟨⟨i + 1, hlt, by simp, hS⟩, ?_⟩
                simp [intOf]; omega
              · have hm4 : (i : Int) % 4 = 1 := by omega
                go_wp2_with (first | ((with_reducible refine gL_load ?_); refine sL_load hS rfl _ _ rfl _ _ rfl 0 _ _ rfl _ hcell ?_) | ((with_reducible refine gL_store ?_); refine sL_store hS rfl _ _ _ rfl _ _ rfl 1 _ _ rfl _ (by go_simp; exact rfl) rfl hlen ?_; clear hS; intro w' hS; simp only [List.set_cons_zero, List.set_cons_succ] at hS))
                rw [Hstep.out _ ?he] at hS
                case he =>
                  rw [Hgd.out 1 _ (by have := Hqi.out; omega) (by omega) rfl]
                  simp
                refine ⟨⟨i + 1, hlt, by simp, hS⟩, ?_⟩
                simp [intOf]; omega
              · have hm4 : (i : Int) % 4 = 2 := by omega
                go_wp2_with (first | ((with_reducible refine gL_load ?_); refine sL_load hS rfl _ _ rfl _ _ rfl 0 _ _ rfl _ hcell ?_) | ((with_reducible refine gL_store ?_); refine sL_store hS rfl _ _ _ rfl _ _ rfl 1 _ _ rfl _ (by go_simp; exact rfl) rfl hlen ?_; clear hS; intro w' hS; simp only [List.set_cons_zero, List.set_cons_succ] at hS))
                rw [Hstep.out _ ?he] at hS
                case he =>
                  rw [Hgd.out 2 _ (by have := Hqi.out; omega) (by omega) rfl]
                  simp
                refine ⟨⟨i + 1, hlt, by simp, hS⟩, ?_⟩
                simp [intOf]; omega
              · have hm4 : (i : Int) % 4 = 3 := by omega
                go_wp2_with (first | ((with_reducible refine gL_load ?_); refine sL_load hS rfl _ _ rfl _ _ rfl 0 _ _ rfl _ hcell ?_) | ((with_reducible refine gL_store ?_); refine sL_store hS rfl _ _ _ rfl _ _ rfl 1 _ _ rfl _ (by go_simp; exact rfl) rfl hlen ?_; clear hS; intro w' hS; simp only [List.set_cons_zero, List.set_cons_succ] at hS))
                rw [Hstep.out _ ?he] at hS
                case he =>
                  rw [Hgd.out 3 _ (by have := Hqi.out; omega) (by omega) rfl]
                  simp
                refine ⟨⟨i + 1, hlt, by simp, hS⟩, ?_⟩
                simp [intOf]; omega
            · obtain rfl : i = 32 := by omega
              have e32 : bvs (out.take 32 ++ List.replicate (32 - 32) 0) = bvs out := by rw [List.take_of_length_le (by omega)]; simp
              rw [e32] at hS
              have hbl : (bvs out).length = 32 := by simp [bvs, hol]
              have hfull : ((bvs out).drop 0).take 32 = bvs out := by rw [List.drop_zero, List.take_of_length_le (by omega)]
              go_wp2_with (first | ((with_reducible refine gL_load ?_); refine sL_loadA hS rfl _ _ rfl _ _ rfl 1 _ _ rfl _ hfull hbl ?_) | ((with_reducible refine gL_store ?_); (refine sL_storeB hS rfl _ _ _ rfl _ rfl 2 _ _ rfl _ (by go_simp; first | exact rfl | exact ⟨rfl, rfl⟩) (by simp [hol]) (by rfl) (bvs_one _) ?_; clear hS; intro w' hS; simp only [List.set_cons_zero, List.set_cons_succ] at hS)))
              exact bodyPost_ret (res_c rfl hS rfl 2 rfl (by simp [hol])) rfl ⟨K2, rfl, hS.drop.drop.drop⟩
theorem End_spec {I : Imm} {w : World} {sp : Nat} {s : List UInt32} {ra : Option Addr} {rn rc m : Nat} (hin : Init I [sumI sp s ra rn rc m] w) (hs : s.length = 8) {r : Bs} (hr : RdB I (.slice ra rn rc) r) (hrl : r.length ≤ 1000) (hm : m ≤ 500000000) :
    Calls Tryz.prog 79 #[.pointer (some ⟨sp, 0, none⟩)] w fun e w' => ∃ J, e = .returned (hashV (endH s r m)) ∧ Nx [sumI sp s ra rn rc m] I w J [sumI sp s ra rn rc m] w' := by
  unfold endH
  by_cases hz : s = zero8
  · rw [if_pos hz]
    refine (End0_spec hin hs hz).mono ?_
    rintro e w' ⟨rfl, hn⟩
    exact ⟨I, rfl, hn⟩
  · rw [if_neg hz]
    exact End1_spec hin hs hz hr hrl hm
end Go.Proofs.YtmlgieclkedomaaGreat

namespace Go.Proofs.YtmlgieclkedomaaGreat
open Go Go.RowKit

theorem shaH_eq (l : Bs) : shaH l = endH (blocksW sq0 (l.length / 64) l) (l.drop (64 * (l.length / 64))) l.length := by
  have hpad : padM (l.drop (64 * (l.length / 64))).length l.length = padB l := by
    unfold padM padB padZ be8
    rw [List.length_drop, show (l.length - 64 * (l.length / 64)) % 64 = l.length % 64 by omega]
  unfold shaH endH
  simp only [hpad]
  rfl
theorem endH_len {s : List UInt32} (hs : s.length = 8) (r : Bs) (m : Nat) : (endH s r m).length = 32 := by
  unfold endH
  split
  · simp
  · rw [outW_len, blocksW_len _ hs]
theorem shaH_len (l : Bs) : (shaH l).length = 32 := by rw [shaH_eq]; exact endH_len (blocksW_len _ rfl _) _ _
attribute [local irreducible] shaH endH blocksW
set_option maxRecDepth 100000 in
theorem Of_spec : HashSpec 57 shaH := by
  intro I w hI v l h hl
  have hS := Nx.nil hI
  obtain ⟨pa, pc, rfl, hp1, hp2, hp3⟩ := h.ex
  have hp : RdB I (.slice pa l.length pc) l := h
  clear hp3 h
  have hlen := shaH_len l
  have heq := shaH_eq l
  have hrl : (l.drop (64 * (l.length / 64))).length ≤ 1000 := by rw [List.length_drop]; omega
  have hb8 : (blocksW sq0 (l.length / 64) l).length = 8 := blocksW_len _ rfl _
  generalize shaH l = H at hlen heq
  obtain ⟨s, hs⟩ : ∃ s, s = blocksW sq0 (l.length / 64) l := ⟨_, rfl⟩
  obtain ⟨r, hr⟩ : ∃ r, r = l.drop (64 * (l.length / 64)) := ⟨_, rfl⟩
  rw [← hs] at hb8 heq
  rw [← hr] at hrl heq
  have Hs := Lib.hid hs
  have Hr := Lib.hid hr
  have Heq := Lib.hid heq
  clear hs hr heq
  have h0 : ∀ J : Imm, RdB J (.slice none 0 0) ([] : Bs) := fun J => ⟨none, 0, rfl, Nat.le_refl _, by decide, .inl ⟨trivial, rfl, rfl, rfl⟩⟩
  go_enter Tryz.func57, Tryz.ntmps57
  go_wp2_with (first | (refine sL_alloc hS rfl 37 rfl ?_; clear hS; intro b2 w' hb2 hS) | (go_at_call 77; refine (shaNew_spec hS.hI).mono ?_; rintro e w' ⟨sb, rfl, hn⟩; replace hS := hS.pure1 hn; clear hn) | ((go_at_call 78; refine (Write_spec (hS.toInit.left (L := [_])) rfl (by decide) (h0 _) hp (by simp; omega) (by omega)).mono ?_; rintro e w' ⟨rfl, K, ra, rn, rc, hrd, hn⟩; replace hS := Nx.call (L1 := [_]) hS hn; clear hn; simp only [List.set_cons_zero, List.set_cons_succ, List.cons_append, List.nil_append] at hS; simp only [List.nil_append, Nat.zero_add] at hrd); refine Stop.of ?_))
  rw [← Hs.out, Nat.zero_add] at hS
  rw [← Hr.out] at hrd
  refine Stop.to ?_
  go_wp2_with (first | (go_at_call 79; refine (End_spec (hS.toInit.left (L := [_])) hb8 hrd hrl (by omega)).mono ?_; rintro e w' ⟨K2, rfl, hn⟩; rw [← Heq.out]; replace hS := Nx.call (L1 := [_]) hS hn; clear hn; simp only [List.set_cons_zero, List.set_cons_succ, List.cons_append, List.nil_append] at hS) | ((with_reducible refine gL_store ?_); (refine sL_storeB hS rfl _ _ _ rfl _ rfl 1 _ _ rfl _ (by go_simp; first | exact rfl | exact ⟨rfl, rfl⟩) (by simp [hlen]) (by rfl) (bvs_one _) ?_; clear hS; intro w' hS; simp only [List.set_cons_zero, List.set_cons_succ] at hS)))
  exact bodyPost_ret (res_c rfl hS rfl 1 rfl (by simp [hlen])) rfl ⟨K2, rfl, hlen, hS.drop.drop⟩

theorem Short_spec {I : Imm} {w : World} (hI : I.Holds w) {v : Value} {l : Bs} (h : RdB I v l) (hl : l.length ≤ 400000) :
    Calls Tryz.prog 42 #[v] w fun e w' => ∃ J ad c, e = .returned (.slice ad 20 c) ∧ RdB J (.slice ad 20 c) ((shaH (shaH l)).take 20) ∧ Nx [] I w J [] w' := by
  have hS := Nx.nil hI
  have hlen := shaH_len (shaH l)
  obtain ⟨H, hH⟩ : ∃ H, H = shaH (shaH l) := ⟨_, rfl⟩
  rw [← hH] at hlen ⊢
  have HH := Lib.hid hH
  clear hH
  go_enter Tryz.func42, Tryz.ntmps42
  go_wp2_with (first | (go_at_call 65; refine (Twice31 Of_spec hS.hI h hl).mono ?_; rintro e w' ⟨J, rfl, _, hn⟩; replace hS := hS.pure0 hn; clear hn; rw [← HH.out]) | (refine sL_alloc hS rfl 37 rfl ?_; clear hS; intro b3 w' hb3 hS) | (((with_reducible refine gL_store ?_); (refine sL_storeB hS rfl _ _ _ rfl _ rfl 0 _ _ rfl _ (by go_simp; first | exact rfl | exact ⟨rfl, rfl⟩) (by simp [hlen]) (by rfl) (bvs_one _) ?_; clear hS; intro w' hS; simp only [List.set_cons_zero] at hS)); obtain ⟨K, hS1, hle, hrd⟩ := hS.freezeB (by assumption) 32 hlen (by decide); clear hS; have hS := hS1; clear hS1; refine Stop.of ?_))
  have hr20 : RdB K (.slice (some ⟨b3, 0, none⟩) 20 32) (H.take 20) := by
    have := hrd.sub hlen 0 20 32 (by omega) (by omega) (by omega) (by omega)
    rw [adrop_zero _ _ _ (.inr ⟨_, _, rfl⟩), List.drop_zero] at this
    exact this
  have hl20 : (H.take 20).length = 20 := by rw [List.length_take, hlen]; rfl
  have hr20l : (H.take 20).length ≤ 1000000000 := by omega
  refine Stop.to ?_
  go_wp2_with ((go_at_call 49; refine (Clone_spec hS.hI hr20 hr20l).mono ?_; rintro e w' ⟨ca, cc, rfl, hn⟩; obtain ⟨K2, hS2, hle2, hrd2⟩ := hS.pureFreeze hn; clear hS hn; have hS := hS2; clear hS2; rw [hl20]))
  go_ret
  exact ⟨K2, ca, cc, rfl, hrd2.asB _ rfl _ (by rw [hl20]) rfl, hS⟩
end Go.Proofs.YtmlgieclkedomaaGreat

namespace Go.Proofs.YtmlgieclkedomaaGreat
open Go Go.RowKit

def brV (l : List Nat) : List Value := l.map fun n => .int .i64 (n : Nat)
/-- what a function of the machine panics with -/
def chainE (c : Int) : List PanicEntry := [{ v := .iface 152 (.agg #[.int .i64 c]), recovered := false }]
theorem failNo_spec {w : World} : Calls Tryz.prog 94 #[.int .i64 0] w fun e w' => (∃ v, e = .returned v) ∧ w = w' := by
  go_enter Tryz.func94, Tryz.ntmps94
  go_wp2
  exact bodyPost_end (results_none rfl _ _ _) rfl ⟨⟨_, rfl⟩, rfl⟩
theorem fail_spec {w : World} {c : Int} (hc : ¬ c = 0) : Calls Tryz.prog 94 #[.int .i64 c] w fun e w' => e = .panicked (chainE c) ∧ w = w' := by
  go_enter Tryz.func94, Tryz.ntmps94
  go_wp2
  exact ⟨rfl, rfl, rfl⟩

/-- the machine's block, its branches, its stack -/
@[reducible] def machI (mb sp : Nat) (dig : Bs) (ba : Option Addr) (bn bc many : Nat) : Item := .blk mb (.pointer (some ⟨sp, 0, none⟩) :: (bvs dig ++ [.slice ba bn bc, .int .i64 many])) 102
def MachAt (J : Imm) (mb sp : Nat) (dig : Bs) (m : PM) (L : List Item) : Prop :=
  ∃ ba bc L2, L = machI mb sp dig ba m.br.length bc m.many :: .row 1 174 (.slice ba m.br.length bc) m.br.length (brV m.br) :: L2 ∧ StkAt J sp m.stk m.alt L2
theorem MachAt.mono {I J : Imm} (h : I.Le J) {mb sp : Nat} {dig : Bs} {m : PM} {L : List Item} (k : MachAt I mb sp dig m L) : MachAt J mb sp dig m L := by
  obtain ⟨ba, bc, L2, e, h2⟩ := k
  exact ⟨ba, bc, L2, e, h2.mono h⟩
/-- what a function of the machine comes to -/
def RPost {α : Type} (R : α → Imm → Value → Prop) (L : List Item) (I : Imm) (w : World) (mb sp : Nat) (dig : Bs) (r : RM α) (e : Ending) (w' : World) : Prop :=
  match r with
  | .error c => e = .panicked (chainE c) ∧ ∃ J L', Nx L I w J L' w'
  | .ok (a, m) => ∃ J L' v, e = .returned v ∧ R a J v ∧ Nx L I w J L' w' ∧ MachAt J mb sp dig m L'
def anyR {α : Type} : α → Imm → Value → Prop := fun _ _ _ => True
def bytesR : Bs → Imm → Value → Prop := fun b J v => RdB J v b
/-- the bounds that a machine keeps -/
structure PM.Ok (m : PM) : Prop where
  many : m.stk.length + m.alt.length ≤ 1000
  len : ∀ b ∈ m.stk, b.length ≤ 1000
  alt : ∀ b ∈ m.alt, b.length ≤ 1000
  br : m.br.length ≤ 1000
  cnt : m.many ≤ 1000000

theorem count_spec {I : Imm} {w : World} {mb sp : Nat} {dig : Bs} {m : PM} {L : List Item} (hin : Init I L w) (h : MachAt I mb sp dig m L) (hd : dig.length = 32) (hm : m.Ok) {n : Nat} (hn : n ≤ 1000) :
    Calls Tryz.prog 105 #[.pointer (some ⟨mb, 0, none⟩), .int .i64 n] w (RPost anyR L I w mb sp dig (countM n m)) := by
  obtain ⟨ba, bc, L2, rfl, hst⟩ := h
  have hS := hin.nx
  have hcnt := hm.cnt
  have h34 : ∀ x y : Value, (Value.pointer (some ⟨sp, 0, none⟩) :: (bvs dig ++ [x, y]))[34]? = some y := fun x y => by
    rw [List.getElem?_cons_succ, List.getElem?_append_right (by simp [hd])]; simp [hd]
  have hlen : ∀ x y : Value, 34 < (Value.pointer (some ⟨sp, 0, none⟩) :: (bvs dig ++ [x, y])).length := fun x y => by simp [hd]
  have hset : ∀ x y z : Value, (Value.pointer (some ⟨sp, 0, none⟩) :: (bvs dig ++ [x, y])).set 34 z = Value.pointer (some ⟨sp, 0, none⟩) :: (bvs dig ++ [x, z]) := fun x y z => by
    rw [List.set_cons_succ, List.set_append_right _ _ (by simp [hd])]; simp [hd]
  have Hset := Lib.hid hset
  clear hset
  by_cases hgt : m.many + n > 100
  · have hgi : (100 : Int) < (m.many : Int) + n := by omega
    have e : countM n m = .error 134 := by unfold countM; rw [if_pos hgt]
    rw [e]
    go_enter Tryz.func105, Tryz.ntmps105
    go_wp2_with (first | ((with_reducible refine gL_load ?_); refine sL_load hS rfl _ _ rfl _ _ rfl 0 _ _ rfl _ (h34 _ _) ?_) | ((with_reducible refine gL_store ?_); refine sL_store hS rfl _ _ _ rfl _ _ rfl 0 _ _ rfl (.int .i64 ((m.many : Int) + n)) rfl rfl (hlen _ _) ?_; clear hS; intro w' hS; simp only [List.set_cons_zero] at hS; rw [Hset.out] at hS) | (go_at_call 94; refine (fail_spec (by decide)).mono ?_; rintro e w' ⟨rfl, rfl⟩))
    exact ⟨rfl, rfl, I, _, hS⟩
  · have hgi : ¬ (100 : Int) < (m.many : Int) + n := by omega
    have e : countM n m = .ok ((), { m with many := m.many + n }) := by unfold countM; rw [if_neg hgt]
    rw [e]
    go_enter Tryz.func105, Tryz.ntmps105
    go_wp2_with (first | ((with_reducible refine gL_load ?_); refine sL_load hS rfl _ _ rfl _ _ rfl 0 _ _ rfl _ (h34 _ _) ?_) | ((with_reducible refine gL_store ?_); refine sL_store hS rfl _ _ _ rfl _ _ rfl 0 _ _ rfl (.int .i64 ((m.many : Int) + n)) rfl rfl (hlen _ _) ?_; clear hS; intro w' hS; simp only [List.set_cons_zero] at hS; rw [Hset.out, ← Int.natCast_add] at hS))
    refine bodyPost_end (results_none rfl _ _ _) rfl ⟨I, _, _, rfl, trivial, hS, ba, bc, L2, rfl, hst⟩

theorem popM_nil {m : PM} (h : m.stk = []) : popM m = .error 120 := by unfold popM; rw [h]; rfl
theorem popM_snoc {m : PM} {s : List Bs} {b : Bs} (h : m.stk = s ++ [b]) : popM m = .ok (b, { m with stk := s }) := by unfold popM; rw [h]; simp
theorem stk_cases (l : List Bs) : l = [] ∨ ∃ s b, l = s ++ [b] := by
  cases l with
  | nil => exact .inl rfl
  | cons a l => exact .inr (snoc_of (by simp))
theorem pop_spec {I : Imm} {w : World} {mb sp : Nat} {dig : Bs} {m : PM} {L : List Item} (hin : Init I L w) (h : MachAt I mb sp dig m L) (hm : m.Ok) :
    Calls Tryz.prog 106 #[.pointer (some ⟨mb, 0, none⟩)] w (RPost bytesR L I w mb sp dig (popM m)) := by
  obtain ⟨ba, bc, L2, rfl, hst⟩ := h
  have hS := hin.nx
  rcases stk_cases m.stk with hnil | ⟨s, b, hs⟩
  · rw [popM_nil hnil]
    rw [hnil] at hst
    go_enter Tryz.func106, Tryz.ntmps106
    go_wp2_with (first | ((with_reducible refine gL_load ?_); refine sL_load hS rfl _ _ rfl _ _ rfl 0 _ _ rfl _ rfl ?_) | (go_at_call 124; refine (PopE_spec (Init.right (L := [_, _]) hS.toInit) hst).mono ?_; rintro e w' ⟨rfl, hn⟩; replace hS := Nx.callTail (L2 := [_, _]) hS hn; clear hn) | (go_at_call 94; refine (fail_spec (by decide)).mono ?_; rintro e w' ⟨rfl, rfl⟩))
    exact ⟨rfl, rfl, I, _, hS⟩
  · rw [popM_snoc hs]
    rw [hs] at hst
    have hm1 := hm.many
    have hm2 := hm.len b (by rw [hs]; simp)
    rw [hs, List.length_append] at hm1
    go_enter Tryz.func106, Tryz.ntmps106
    go_wp2_with (first | ((with_reducible refine gL_load ?_); refine sL_load hS rfl _ _ rfl _ _ rfl 0 _ _ rfl _ rfl ?_) | (go_at_call 124; refine (PopS_spec (Init.right (L := [_, _]) hS.toInit) hst (by omega) (by omega)).mono ?_; rintro e w' ⟨ca, cc, J, L', rfl, hn, hst2, hrd⟩; replace hS := Nx.callTail (L2 := [_, _]) hS hn; clear hn) | (go_at_call 94; refine (failNo_spec).mono ?_; rintro e w' ⟨⟨_, rfl⟩, rfl⟩))
    go_ret
    exact ⟨J, _, _, rfl, hrd, hS, ba, bc, L', rfl, hst2⟩

theorem mpush_spec {I : Imm} {w : World} {mb sp : Nat} {dig : Bs} {m : PM} {L : List Item} (hin : Init I L w) (h : MachAt I mb sp dig m L) (hm : m.Ok) {v : Value} {b : Bs} (hv : RdB I v b) (hb : b.length ≤ 100000) :
    Calls Tryz.prog 109 #[.pointer (some ⟨mb, 0, none⟩), v] w (RPost anyR L I w mb sp dig (pushM b m)) := by
  obtain ⟨ba, bc, L2, rfl, hst⟩ := h
  have hS := hin.nx
  have hm1 := hm.many
  have hpush := stkPush_spec (Init.right (L := [_, _]) hS.toInit) hst (by omega) hv (by omega)
  unfold PushPost at hpush
  by_cases h1 : b.length > 520
  · have e : pushM b m = .error 120 := by unfold pushM; rw [if_pos h1]
    simp only [if_pos h1] at hpush
    rw [e]
    go_enter Tryz.func109, Tryz.ntmps109
    go_wp2_with (first | ((with_reducible refine gL_load ?_); refine sL_load hS rfl _ _ rfl _ _ rfl 0 _ _ rfl _ rfl ?_) | (go_at_call 126; refine (hpush).mono ?_; rintro e w' ⟨rfl, J, hn⟩; replace hS := Nx.callTail (L2 := [_, _]) hS hn; clear hn) | (go_at_call 94; refine (fail_spec (by decide)).mono ?_; rintro e w' ⟨rfl, rfl⟩))
    exact ⟨rfl, rfl, J, _, hS⟩
  · by_cases h2 : m.stk.length + m.alt.length = 100
    · have e : pushM b m = .error 121 := by unfold pushM; rw [if_neg h1, if_pos h2]
      simp only [if_neg h1, if_pos h2] at hpush
      rw [e]
      go_enter Tryz.func109, Tryz.ntmps109
      go_wp2_with (first | ((with_reducible refine gL_load ?_); refine sL_load hS rfl _ _ rfl _ _ rfl 0 _ _ rfl _ rfl ?_) | (go_at_call 126; refine (hpush).mono ?_; rintro e w' ⟨rfl, J, hn⟩; replace hS := Nx.callTail (L2 := [_, _]) hS hn; clear hn) | (go_at_call 94; refine (fail_spec (by decide)).mono ?_; rintro e w' ⟨rfl, rfl⟩))
      exact ⟨rfl, rfl, J, _, hS⟩
    · have e : pushM b m = .ok ((), { m with stk := m.stk ++ [b] }) := by unfold pushM; rw [if_neg h1, if_neg h2]
      simp only [if_neg h1, if_neg h2] at hpush
      rw [e]
      go_enter Tryz.func109, Tryz.ntmps109
      go_wp2_with (first | ((with_reducible refine gL_load ?_); refine sL_load hS rfl _ _ rfl _ _ rfl 0 _ _ rfl _ rfl ?_) | (go_at_call 126; refine (hpush).mono ?_; rintro e w' ⟨rfl, J, L', hn, hst2⟩; replace hS := Nx.callTail (L2 := [_, _]) hS hn; clear hn) | (go_at_call 94; refine (failNo_spec).mono ?_; rintro e w' ⟨⟨_, rfl⟩, rfl⟩))
      exact bodyPost_end (results_none rfl _ _ _) rfl ⟨J, _, _, rfl, trivial, hS, ba, bc, L', rfl, hst2⟩
end Go.Proofs.YtmlgieclkedomaaGreat

namespace Go.Proofs.YtmlgieclkedomaaGreat
open Go Go.RowKit

theorem PM.Ok.pop {m m2 : PM} {b : Bs} (hm : m.Ok) (h : popM m = .ok (b, m2)) : m2.Ok ∧ b.length ≤ 1000 := by
  rcases stk_cases m.stk with hnil | ⟨s, b', hs⟩
  · rw [popM_nil hnil] at h; cases h
  · rw [popM_snoc hs] at h
    cases h
    have h1 := hm.many
    have h2 := hm.len
    rw [hs] at h1 h2
    exact ⟨⟨by simp at h1 ⊢; omega, fun x hx => h2 x (by simp [hx]), hm.alt, hm.br, hm.cnt⟩, h2 b (by simp)⟩
theorem verify_spec {I : Imm} {w : World} {mb sp : Nat} {dig : Bs} {m : PM} {L : List Item} (hin : Init I L w) (h : MachAt I mb sp dig m L) (hm : m.Ok) :
    Calls Tryz.prog 116 #[.pointer (some ⟨mb, 0, none⟩)] w (RPost anyR L I w mb sp dig (verifyM m)) := by
  have hS := hin.nx
  have hpop := pop_spec hin h hm
  unfold RPost at hpop
  cases hp : popM m with
  | error c =>
    have e : verifyM m = .error c := by unfold verifyM; rw [hp]; rfl
    rw [hp] at hpop
    rw [e]
    go_enter Tryz.func116, Tryz.ntmps116
    go_wp2_with (first | (go_at_call 106; refine (hpop).mono ?_; rintro e w' ⟨rfl, J, L', hn⟩; replace hS := hS.trans hn; clear hn))
    exact ⟨rfl, rfl, J, _, hS⟩
  | ok bm =>
    obtain ⟨b, m2⟩ := bm
    obtain ⟨hm2, hbl⟩ := hm.pop hp
    have e : verifyM m = if trueB b then .ok ((), m2) else .error 132 := by unfold verifyM; rw [hp]; simp only [bindM, okM]
    rw [hp] at hpop
    rw [e]
    cases ht : trueB b with
    | true =>
      go_enter Tryz.func116, Tryz.ntmps116
      go_wp2_with (first | (go_at_call 106; refine (hpop).mono ?_; rintro e w' ⟨J, L', v, rfl, hrd, hn, hma⟩; replace hS := hS.trans hn; clear hn) | (go_at_call 16; refine (True_spec hS.hI hrd (by omega)).mono ?_; rintro e w' ⟨rfl, rfl⟩; rw [ht]))
      exact bodyPost_end (results_none rfl _ _ _) rfl ⟨J, L', _, rfl, trivial, hS, hma⟩
    | false =>
      go_enter Tryz.func116, Tryz.ntmps116
      go_wp2_with (first | (go_at_call 106; refine (hpop).mono ?_; rintro e w' ⟨J, L', v, rfl, hrd, hn, hma⟩; replace hS := hS.trans hn; clear hn) | (go_at_call 16; refine (True_spec hS.hI hrd (by omega)).mono ?_; rintro e w' ⟨rfl, rfl⟩; rw [ht]) | (go_at_call 94; refine (fail_spec (by decide)).mono ?_; rintro e w' ⟨rfl, rfl⟩))
      exact ⟨rfl, rfl, J, _, hS⟩

def intR : Int → Imm → Value → Prop := fun n _ v => v = .int .i64 n
theorem numM_nil {m : PM} (h : m.stk = []) : numM m = .error 120 := by unfold numM; rw [h]; rfl
theorem numM_snoc {m : PM} {s : List Bs} {b : Bs} (h : m.stk = s ++ [b]) : numM m = match decB b with | none => .error 110 | some n => .ok (n, { m with stk := s }) := by unfold numM; rw [h]; simp; cases decB b <;> rfl
theorem number_spec {I : Imm} {w : World} {mb sp : Nat} {dig : Bs} {m : PM} {L : List Item} (hin : Init I L w) (h : MachAt I mb sp dig m L) (hm : m.Ok) :
    Calls Tryz.prog 132 #[.pointer (some ⟨mb, 0, none⟩)] w (RPost intR L I w mb sp dig (numM m)) := by
  obtain ⟨ba, bc, L2, rfl, hst⟩ := h
  have hS := hin.nx
  rcases stk_cases m.stk with hnil | ⟨s, b, hs⟩
  · rw [numM_nil hnil]
    rw [hnil] at hst
    go_enter Tryz.func132, Tryz.ntmps132
    go_wp2_with (first | ((with_reducible refine gL_load ?_); refine sL_load hS rfl _ _ rfl _ _ rfl 0 _ _ rfl _ rfl ?_) | (go_at_call 163; refine (NumberE_spec (Init.right (L := [_, _]) hS.toInit) hst).mono ?_; rintro e w' ⟨rfl, hn⟩; replace hS := Nx.callTail (L2 := [_, _]) hS hn; clear hn) | (go_at_call 94; refine (fail_spec (by decide)).mono ?_; rintro e w' ⟨rfl, rfl⟩))
    exact ⟨rfl, rfl, I, _, hS⟩
  · rw [numM_snoc hs]
    rw [hs] at hst
    have hm1 := hm.many
    have hm2 := hm.len b (by rw [hs]; simp)
    rw [hs, List.length_append] at hm1
    have hnum := NumberS_spec (Init.right (L := [_, _]) hS.toInit) hst (by omega) (by omega)
    unfold NumberPost at hnum
    cases hd : decB b with
    | none =>
      rw [hd] at hnum
      go_enter Tryz.func132, Tryz.ntmps132
      go_wp2_with (first | ((with_reducible refine gL_load ?_); refine sL_load hS rfl _ _ rfl _ _ rfl 0 _ _ rfl _ rfl ?_) | (go_at_call 163; refine (hnum).mono ?_; rintro e w' ⟨rfl, J, hn⟩; replace hS := Nx.callTail (L2 := [_, _]) hS hn; clear hn) | (go_at_call 94; refine (fail_spec (by decide)).mono ?_; rintro e w' ⟨rfl, rfl⟩))
      exact ⟨rfl, rfl, J, _, hS⟩
    | some n =>
      rw [hd] at hnum
      go_enter Tryz.func132, Tryz.ntmps132
      go_wp2_with (first | ((with_reducible refine gL_load ?_); refine sL_load hS rfl _ _ rfl _ _ rfl 0 _ _ rfl _ rfl ?_) | (go_at_call 163; refine (hnum).mono ?_; rintro e w' ⟨rfl, J, L', hn, hst2⟩; replace hS := Nx.callTail (L2 := [_, _]) hS hn; clear hn) | (go_at_call 94; refine (failNo_spec).mono ?_; rintro e w' ⟨⟨_, rfl⟩, rfl⟩))
      go_ret
      exact ⟨J, _, _, rfl, rfl, hS, ba, bc, L', rfl, hst2⟩
theorem numM_ok {m m2 : PM} {n : Int} (hm : m.Ok) (h : numM m = .ok (n, m2)) : m2.Ok := by
  rcases stk_cases m.stk with hnil | ⟨s, b', hs⟩
  · rw [numM_nil hnil] at h; cases h
  · rw [numM_snoc hs] at h
    have h1 := hm.many
    have h2 := hm.len
    rw [hs] at h1 h2
    cases hd : decB b' with
    | none => rw [hd] at h; cases h
    | some k =>
      rw [hd] at h
      cases h
      exact ⟨by simp at h1 ⊢; omega, fun x hx => h2 x (by simp [hx]), hm.alt, hm.br, hm.cnt⟩
def natR : Nat → Imm → Value → Prop := fun n _ v => v = .int .i64 (n : Nat)
theorem upTo_spec {I : Imm} {w : World} {mb sp : Nat} {dig : Bs} {m : PM} {L : List Item} (hin : Init I L w) (h : MachAt I mb sp dig m L) (hm : m.Ok) {most : Nat} (hmost : most ≤ 1000) :
    Calls Tryz.prog 166 #[.pointer (some ⟨mb, 0, none⟩), .int .i64 most] w (RPost natR L I w mb sp dig (upToM most m)) := by
  have hS := hin.nx
  have hnum := number_spec hin h hm
  unfold RPost at hnum
  cases hp : numM m with
  | error c =>
    have e : upToM most m = .error c := by unfold upToM; rw [hp]; rfl
    rw [hp] at hnum
    rw [e]
    go_enter Tryz.func166, Tryz.ntmps166
    go_wp2_with (first | (go_at_call 132; refine (hnum).mono ?_; rintro e w' ⟨rfl, J, L', hn⟩; replace hS := hS.trans hn; clear hn))
    exact ⟨rfl, rfl, J, _, hS⟩
  | ok nm =>
    obtain ⟨n, m2⟩ := nm
    have e : upToM most m = if n < 0 ∨ (most : Int) < n then .error 135 else .ok (n.toNat, m2) := by unfold upToM; rw [hp]; simp only [bindM, okM]
    rw [hp] at hnum
    rw [e]
    unfold intR at hnum
    by_cases h0 : n < 0
    · rw [if_pos (.inl h0)]
      go_enter Tryz.func166, Tryz.ntmps166
      go_wp2_with (first | (go_at_call 132; refine (hnum).mono ?_; rintro e w' ⟨J, L', v, rfl, rfl, hn, hma⟩; replace hS := hS.trans hn; clear hn) | (go_at_call 94; refine (fail_spec (by decide)).mono ?_; rintro e w' ⟨rfl, rfl⟩))
      exact ⟨rfl, rfl, J, _, hS⟩
    · by_cases h1 : (most : Int) < n
      · rw [if_pos (.inr h1)]
        go_enter Tryz.func166, Tryz.ntmps166
        go_wp2_with (first | (go_at_call 132; refine (hnum).mono ?_; rintro e w' ⟨J, L', v, rfl, rfl, hn, hma⟩; replace hS := hS.trans hn; clear hn) | (go_at_call 94; refine (fail_spec (by decide)).mono ?_; rintro e w' ⟨rfl, rfl⟩))
        exact ⟨rfl, rfl, J, _, hS⟩
      · rw [if_neg (by omega)]
        go_enter Tryz.func166, Tryz.ntmps166
        go_wp2_with (first | (go_at_call 132; refine (hnum).mono ?_; rintro e w' ⟨J, L', v, rfl, rfl, hn, hma⟩; replace hS := hS.trans hn; clear hn))
        go_ret
        refine ⟨J, L', _, rfl, ?_, hS, hma⟩
        show Value.int _ _ = Value.int _ _
        congr 1; omega
end Go.Proofs.YtmlgieclkedomaaGreat

namespace Go.Proofs.YtmlgieclkedomaaGreat
open Go Go.RowKit

def is2 (x : Nat) : Bool := decide (x = 2)
theorem does1_spec {w : World} {x : Nat} : Calls Tryz.prog 108 #[.int .i64 x] w fun e w' => e = .returned (.bool (! is2 x)) ∧ w = w' := by
  by_cases h : x = 2
  · subst h
    go_enter Tryz.func108, Tryz.ntmps108
    go_wp2
    go_ret
    exact ⟨rfl, rfl⟩
  · have hi : ¬ (x : Int) = 2 := by omega
    go_enter Tryz.func108, Tryz.ntmps108
    go_wp2
    go_ret
    refine ⟨ret_bool ?_, rfl⟩
    simp [is2, h, hi]
set_option maxRecDepth 10000 in
theorem IndexFunc_spec {I : Imm} {w : World} (hI : I.Holds w) {ad : Option Addr} {n c : Nat} {l : List Nat} (hsrc : Src w ad (brV l)) (hn : l.length = n) (hl : n ≤ 100000) :
    Calls Tryz.prog 125 #[.slice ad n c, .func (.func 108) #[] #[]] w fun e w' => ∃ i : Int, e = .returned (.int .i64 i) ∧ (i < 0 ↔ l.all is2 = true) ∧ w = w' := by
  go_enter Tryz.func125, Tryz.ntmps125
  go_wp2
  go_loopw [8] (fun v8 wr => ∃ i, i ≤ n ∧ v8 = .int .i64 (i : Nat) ∧ (l.take i).all is2 = true ∧ w = wr) (fun v8 _ => n - (intOf v8).toNat)
  case atStart => exact ⟨0, by omega, rfl, by simp, rfl⟩
  case round =>
    obtain ⟨i, hi, rfl, hall, rfl⟩ := hrel
    by_cases hlt : i < n
    · obtain ⟨g, j, rfl, hc⟩ := hsrc.resolve_left (by rintro ⟨_, h0⟩; have hl0 : l = [] := (by simpa [brV] using h0); rw [hl0] at hn; simp at hn; omega)
      obtain ⟨x, hx⟩ : ∃ x, x = l[i] := ⟨_, rfl⟩
      have hcell := hc i (.int .i64 (x : Nat)) (by rw [hx]; simp [brV, hn, hlt])
      have hst : (l.take (i + 1)).all is2 = is2 x := by
        rw [List.take_succ_eq_append_getElem (by omega), List.all_append, hall, hx]; simp
      have Hst := Lib.hid hst
      have Hx := Lib.hid hx
      clear hst hx hall
      cases h2 : is2 x with
      | true =>
        have Hb := Lib.hid h2
        clear h2
        go_wp2_with (first | ((with_reducible refine gL_load ?_); refine sL_loadC rfl _ _ rfl _ _ rfl _ hcell ?_) | (go_at_call 108; refine (does1_spec).mono ?_; rintro e w' ⟨rfl, rfl⟩; rw [Hb.out]))
        refine ⟨⟨i + 1, hlt, by simp, by rw [Hst.out, Hb.out], trivial⟩, ?_⟩
        simp [intOf]; omega
      | false =>
        have Hb := Lib.hid h2
        clear h2
        go_wp2_with (first | ((with_reducible refine gL_load ?_); refine sL_loadC rfl _ _ rfl _ _ rfl _ hcell ?_) | (go_at_call 108; refine (does1_spec).mono ?_; rintro e w' ⟨rfl, rfl⟩; rw [Hb.out]))
        go_ret
        refine ⟨_, rfl, ⟨fun h => by omega, fun h => ?_⟩, rfl⟩
        exfalso
        rw [List.all_eq_true] at h
        have := h x (by rw [Hx.out]; exact List.getElem_mem _)
        rw [Hb.out] at this; cases this
    · obtain rfl : i = n := by omega
      have Hall := Lib.hid hall
      clear hall
      go_wp2
      go_ret
      refine ⟨_, rfl, ⟨fun _ => ?_, fun _ => by decide⟩, rfl⟩
      have := Hall.out
      rw [← hn, List.take_length] at this
      exact this
theorem ContainsFunc_spec {I : Imm} {w : World} (hI : I.Holds w) {ad : Option Addr} {n c : Nat} {l : List Nat} (hsrc : Src w ad (brV l)) (hn : l.length = n) (hl : n ≤ 100000) :
    Calls Tryz.prog 107 #[.slice ad n c, .func (.func 108) #[] #[]] w fun e w' => e = .returned (.bool (! l.all is2)) ∧ w = w' := by
  go_enter Tryz.func107, Tryz.ntmps107
  go_wp2_with (first | (go_at_call 125; refine (IndexFunc_spec hI hsrc hn hl).mono ?_; rintro e w' ⟨i, rfl, hiff, rfl⟩))
  go_ret
  refine ⟨ret_bool ?_, rfl⟩
  cases h : l.all is2 with
  | true => have := hiff.2 h; simp; omega
  | false =>
    have : ¬ i < 0 := fun hi => by rw [hiff.1 hi] at h; cases h
    simp; omega
theorem does_spec {I : Imm} {w : World} {mb sp : Nat} {dig : Bs} {m : PM} {L : List Item} (hin : Init I L w) (h : MachAt I mb sp dig m L) (hd : dig.length = 32) (hm : m.Ok) :
    Calls Tryz.prog 92 #[.pointer (some ⟨mb, 0, none⟩)] w fun e w' => e = .returned (.bool (doesM m)) ∧ w = w' := by
  obtain ⟨ba, bc, L2, rfl, hst⟩ := h
  have hS := hin.nx
  have hbr := hm.br
  have h33 : ∀ x y : Value, (Value.pointer (some ⟨sp, 0, none⟩) :: (bvs dig ++ [x, y]))[33]? = some x := fun x y => by
    rw [List.getElem?_cons_succ, List.getElem?_append_right (by simp [hd])]; simp [hd]
  have hsrc : Src w ba (brV m.br) := hS.srcRow (i := 1) rfl
  have hdo : doesM m = m.br.all is2 := rfl
  rw [hdo]
  go_enter Tryz.func92, Tryz.ntmps92
  go_wp2_with (first | ((with_reducible refine gL_load ?_); refine sL_load hS rfl _ _ rfl _ _ rfl 0 _ _ rfl _ (h33 _ _) ?_) | (go_at_call 107; refine (ContainsFunc_spec hS.hI hsrc rfl (by omega)).mono ?_; rintro e w' ⟨rfl, rfl⟩))
  go_ret
  exact ⟨ret_bool (by simp), rfl⟩
end Go.Proofs.YtmlgieclkedomaaGreat

namespace Go.Proofs.YtmlgieclkedomaaGreat
open Go Go.RowKit

def boolR : Bool → Imm → Value → Prop := fun b _ v => v = .bool b
section
variable {sp : Nat} {dig : Bs}
theorem f33 (hd : dig.length = 32) (x y : Value) : (Value.pointer (some ⟨sp, 0, none⟩) :: (bvs dig ++ [x, y]))[33]? = some x := by
  rw [List.getElem?_cons_succ, List.getElem?_append_right (by simp [hd])]; simp [hd]
theorem f33l (hd : dig.length = 32) (x y : Value) : 33 < (Value.pointer (some ⟨sp, 0, none⟩) :: (bvs dig ++ [x, y])).length := by simp [hd]
theorem f33s (hd : dig.length = 32) (x y z : Value) : (Value.pointer (some ⟨sp, 0, none⟩) :: (bvs dig ++ [x, y])).set 33 z = Value.pointer (some ⟨sp, 0, none⟩) :: (bvs dig ++ [z, y]) := by
  rw [List.set_cons_succ, List.set_append_right _ _ (by simp [hd])]; simp [hd]
end
set_option maxRecDepth 10000 in
set_option maxHeartbeats 1000000 in
theorem flowIf_spec {I : Imm} {w : World} {mb sp : Nat} {dig : Bs} {m : PM} {L : List Item} (hin : Init I L w) (h : MachAt I mb sp dig m L) (hd : dig.length = 32) (hm : m.Ok) {c : UInt8} (hc : c = 99 ∨ c = 100) :
    Calls Tryz.prog 91 #[.pointer (some ⟨mb, 0, none⟩), bv c] w (RPost boolR L I w mb sp dig (flowM c m)) := by
  have hS := hin.nx
  have hdoes := fun {I : Imm} {w : World} {L : List Item} (hin : Init I L w) (h : MachAt I mb sp dig m L) => does_spec hin h hd hm
  have hbr := hm.br
  cases hdm : doesM m with
  | false =>
    have e : flowM c m = .ok (true, { m with br := m.br ++ [0] }) := by unfold flowM; rw [if_pos hc, hdm]; rfl
    rw [e]
    have h2 := h
    obtain ⟨ba, bc, L2, rfl, hst⟩ := h
    rcases hc with rfl | rfl
    all_goals
      show Calls _ _ #[_, .int .u8 _] _ _
      go_enter Tryz.func91, Tryz.ntmps91
      go_wp2_with (first | ((with_reducible refine gL_load ?_); refine sL_load hS rfl _ _ rfl _ _ rfl 0 _ _ rfl _ (f33 hd _ _) ?_) | (go_at_call 92; refine (hdoes hin h2).mono ?_; rintro e w' ⟨rfl, rfl⟩; rw [hdm]) | ((with_reducible refine gL_lit ?_); first | (refine sL_lit0 hS rfl _ rfl ?_; clear hS; intro lb w' hlb hS) | (refine sL_lit1 hS rfl _ _ rfl _ (by go_simp; first | exact rfl | exact ⟨rfl, rfl⟩) rfl ?_; clear hS; intro lb w' hlb hS) | (refine sL_lit2 hS rfl _ _ _ rfl _ _ (by go_simp; first | exact rfl | exact ⟨rfl, rfl⟩) (by go_simp; first | exact rfl | exact ⟨rfl, rfl⟩) rfl rfl ?_; clear hS; intro lb w' hlb hS) | (refine sL_lit12 hS rfl _ _ rfl _ _ (by go_simp; first | exact rfl | exact ⟨rfl, rfl⟩) ?_; clear hS; intro lb w' hlb hS)) | ((with_reducible refine gL_app ?_); refine sL_append hS rfl _ _ _ rfl 2 _ _ _ rfl rfl _ _ _ _ rfl rfl (hS.srcBlk (i := 0) rfl) (by simp [Value.oneCell']) (by omega) ?_; clear hS; intro ad' c' w' hS hnil hown; simp only [List.set_cons_zero, List.set_cons_succ] at hS; replace hS := hS.drop) | ((with_reducible refine gL_store ?_); refine sL_store hS rfl _ _ _ rfl _ _ rfl 0 _ _ rfl (.slice ad' (m.br.length + 1) c') rfl rfl (f33l hd _ _) ?_; clear hS; intro w' hS; simp only [List.set_cons_zero] at hS; rw [f33s hd] at hS))
      go_ret
      refine ⟨I, _, _, rfl, rfl, hS, ad', c', L2, ?_, hst⟩
      simp [brV]
  | true =>
    have hpop := pop_spec hin h hm
    unfold RPost at hpop
    have h2 := h
    obtain ⟨ba0, bc0, L20, rfl, hst0⟩ := h
    clear hst0
    cases hp : popM m with
    | error e0 =>
      have e : flowM c m = .error e0 := by unfold flowM; rw [if_pos hc, hdm, if_pos rfl, hp]; rfl
      rw [hp] at hpop
      rw [e]
      rcases hc with rfl | rfl
      all_goals
        show Calls _ _ #[_, .int .u8 _] _ _
        go_enter Tryz.func91, Tryz.ntmps91
        go_wp2_with (first | ((with_reducible refine gL_load ?_); refine sL_load hS rfl _ _ rfl _ _ rfl 0 _ _ rfl _ (f33 hd _ _) ?_) | (go_at_call 92; refine (hdoes hin h2).mono ?_; rintro e w' ⟨rfl, rfl⟩; rw [hdm]) | (go_at_call 106; refine (hpop).mono ?_; rintro e w' ⟨rfl, J, L', hn⟩; replace hS := hS.trans hn; clear hn))
        exact ⟨rfl, rfl, J, _, hS⟩
    | ok bm =>
      obtain ⟨b, m2⟩ := bm
      obtain ⟨hm2, hbl⟩ := hm.pop hp
      have hbr2 := hm2.br
      have e : flowM c m = .ok (true, { m2 with br := m2.br ++ [if trueB b = decide (c = 99) then 2 else 1] }) := by unfold flowM; rw [if_pos hc, hdm, if_pos rfl, hp]; rfl
      rw [hp] at hpop
      rw [e]
      have hif : ∀ (t : Bool) (c : UInt8), (if t = decide (c = 99) then 2 else 1 : Nat) = if (t == decide (c = 99)) = true then 2 else 1 := fun t c => by cases t <;> cases decide (c = 99) <;> rfl
      rw [hif]
      rcases hc with rfl | rfl
      all_goals
        show Calls _ _ #[_, .int .u8 _] _ _
        cases ht : trueB b
        all_goals
          go_enter Tryz.func91, Tryz.ntmps91
          go_wp2_with (first | ((with_reducible refine gL_load ?_); refine sL_load hS rfl _ _ rfl _ _ rfl 0 _ _ rfl _ (f33 hd _ _) ?_) | (go_at_call 92; refine (hdoes hin h2).mono ?_; rintro e w' ⟨rfl, rfl⟩; rw [hdm]) | (go_at_call 106; refine (hpop).mono ?_; rintro e w' ⟨J, L', v, rfl, hrd, hn, hma⟩; replace hS := hS.trans hn; clear hn) | ((go_at_call 16; refine (True_spec hS.hI hrd (by omega)).mono ?_; rintro e w' ⟨rfl, rfl⟩; rw [ht]); refine Stop.of ?_))
          obtain ⟨ba, bc, L2, rfl, hst⟩ := hma
          refine Stop.to ?_
          go_wp2_with (first | ((with_reducible refine gL_load ?_); refine sL_load hS rfl _ _ rfl _ _ rfl 0 _ _ rfl _ (f33 hd _ _) ?_) | ((with_reducible refine gL_lit ?_); first | (refine sL_lit0 hS rfl _ rfl ?_; clear hS; intro lb w' hlb hS) | (refine sL_lit1 hS rfl _ _ rfl _ (by go_simp; first | exact rfl | exact ⟨rfl, rfl⟩) rfl ?_; clear hS; intro lb w' hlb hS) | (refine sL_lit2 hS rfl _ _ _ rfl _ _ (by go_simp; first | exact rfl | exact ⟨rfl, rfl⟩) (by go_simp; first | exact rfl | exact ⟨rfl, rfl⟩) rfl rfl ?_; clear hS; intro lb w' hlb hS) | (refine sL_lit12 hS rfl _ _ rfl _ _ (by go_simp; first | exact rfl | exact ⟨rfl, rfl⟩) ?_; clear hS; intro lb w' hlb hS)) | ((with_reducible refine gL_app ?_); refine sL_append hS rfl _ _ _ rfl 2 _ _ _ rfl rfl _ _ _ _ rfl rfl (hS.srcBlk (i := 0) rfl) (by simp [Value.oneCell']) (by omega) ?_; clear hS; intro ad' c' w' hS hnil hown; simp only [List.set_cons_zero, List.set_cons_succ] at hS; replace hS := hS.drop) | ((with_reducible refine gL_store ?_); refine sL_store hS rfl _ _ _ rfl _ _ rfl 0 _ _ rfl (.slice ad' (m2.br.length + 1) c') rfl rfl (f33l hd _ _) ?_; clear hS; intro w' hS; simp only [List.set_cons_zero] at hS; rw [f33s hd] at hS))
          go_ret
          refine ⟨J, _, _, rfl, rfl, hS, ad', c', L2, ?_, hst⟩
          simp [brV]
theorem Nx.shorten {L0 : List Item} {I0 I : Imm} {w0 w : World} {L : List Item} (h : Nx L0 I0 w0 I L w) {i m c g : Nat} {e : TypeId} {xs : List Value} (hi : L[i]? = some (.row 1 e (.slice (some ⟨g, 0, none⟩) m c) m xs)) (k : Nat) (hk : k ≤ m) :
    Nx L0 I0 w0 I (L.set i (.row 1 e (.slice (some ⟨g, 0, none⟩) k c) k (xs.take k))) w := by
  obtain ⟨rest, hx, hmc, hcm, hcl, hn⟩ := h.openRow hi
  have hil : i < L.length := (List.getElem?_eq_some_iff.1 hi).1
  have e1 : xs ++ rest = xs.take k ++ (xs.drop k ++ rest) := by rw [← List.append_assoc, List.take_append_drop]
  have := hn.closeRow (i := i) (by rw [List.getElem?_set_self hil]) 1 k c (xs.take k) _ e1 (by rw [List.length_take]; omega) (by omega) hcm hcl
  rw [List.set_set] at this
  exact this
theorem flowEndE_spec {I : Imm} {w : World} {mb sp : Nat} {dig : Bs} {m : PM} {L : List Item} (hin : Init I L w) (h : MachAt I mb sp dig m L) (hd : dig.length = 32) {c : UInt8} (hc : c = 103 ∨ c = 104) (hbr : m.br = []) :
    Calls Tryz.prog 91 #[.pointer (some ⟨mb, 0, none⟩), bv c] w (RPost boolR L I w mb sp dig (flowM c m)) := by
  have hS := hin.nx
  obtain ⟨ba, bc, L2, rfl, hst⟩ := h
  have e : flowM c m = .error 131 := by
    rcases hc with rfl | rfl
    · unfold flowM; rw [hbr]; rfl
    · unfold flowM; rw [hbr]; rfl
  rw [e]
  rw [hbr] at hS ⊢
  rcases hc with rfl | rfl
  all_goals
    show Calls _ _ #[_, .int .u8 _] _ _
    go_enter Tryz.func91, Tryz.ntmps91
    go_wp2_with (first | ((with_reducible refine gL_load ?_); refine sL_load hS rfl _ _ rfl _ _ rfl 0 _ _ rfl _ (f33 hd _ _) ?_) | (go_at_call 94; refine (fail_spec (by decide)).mono ?_; rintro e w' ⟨rfl, rfl⟩))
    exact ⟨rfl, rfl, I, _, hS⟩
end Go.Proofs.YtmlgieclkedomaaGreat

namespace Go.Proofs.YtmlgieclkedomaaGreat
open Go Go.RowKit

theorem nat_snoc {l : List Nat} (h : l ≠ []) : ∃ s x, l = s ++ [x] := ⟨l.dropLast, l.getLast h, (List.dropLast_concat_getLast h).symm⟩
set_option maxRecDepth 10000 in
theorem flowEnd_spec {I : Imm} {w : World} {mb sp : Nat} {dig : Bs} {m : PM} {L : List Item} (hin : Init I L w) (h : MachAt I mb sp dig m L) (hd : dig.length = 32) (hm : m.Ok) {bs : List Nat} {x : Nat} (hbr : m.br = bs ++ [x]) :
    Calls Tryz.prog 91 #[.pointer (some ⟨mb, 0, none⟩), .int .u8 104] w (RPost boolR L I w mb sp dig (flowM 104 m)) := by
  have hS := hin.nx
  have hb := hm.br
  obtain ⟨ba, bc, L2, rfl, hst⟩ := h
  have e : flowM 104 m = .ok (true, { m with br := bs }) := by unfold flowM; rw [hbr]; simp
  rw [e]
  rw [hbr] at hS hb ⊢
  obtain ⟨n, hn⟩ : ∃ n, n = (bs ++ [x]).length := ⟨_, rfl⟩
  obtain ⟨k, hk⟩ : ∃ k, k = bs.length := ⟨_, rfl⟩
  have hnk : n = k + 1 := by rw [hn, hk]; simp
  rw [← hn] at hS hb ⊢
  obtain ⟨g, rfl, hgc⟩ := hS.row_ad (i := 1) rfl (by omega)
  have hn0 : ¬ (n : Int) - 1 < 0 := by omega
  have hnk1 : (n : Int) - 1 = (k : Nat) := by omega
  have hk0 : ¬ (k : Int) < 0 := by omega
  have hkn : (k : Int) ≤ n := by omega
  have Hnk := Lib.hid hnk
  have Hk := Lib.hid hk
  have hkc : k ≤ bc := by omega
  clear hn hk hnk e hbr
  go_enter Tryz.func91, Tryz.ntmps91
  go_wp2_with (first | ((with_reducible refine gL_load ?_); refine sL_load hS rfl _ _ rfl _ _ rfl 0 _ _ rfl _ (f33 hd _ _) ?_) | ((with_reducible refine gL_slice ?_); refine sL_slice0 rfl _ _ _ _ rfl _ _ _ rfl (.inr ⟨_, _, rfl⟩) k bc rfl rfl hkc (Nat.le_refl _) (by simp) ?_) | ((with_reducible refine gL_store ?_); refine sL_store hS rfl _ _ _ rfl _ _ rfl 0 _ _ rfl (.slice (some ⟨g, 0, none⟩) k bc) rfl rfl (f33l hd _ _) ?_; clear hS; intro w' hS; simp only [List.set_cons_zero] at hS; rw [f33s hd] at hS))
  go_ret
  have hS2 := hS.shorten (i := 1) rfl k (by have := Hnk.out; omega)
  have hbv : (brV (bs ++ [x])).take k = brV bs := by rw [Hk.out]; simp [brV]
  simp only [List.set_cons_succ, List.set_cons_zero, hbv] at hS2
  exact ⟨I, _, _, rfl, rfl, hS2, _, bc, L2, by rw [Hk.out], hst⟩

set_option maxRecDepth 10000 in
set_option maxHeartbeats 1000000 in
theorem flowElse_spec {I : Imm} {w : World} {mb sp : Nat} {dig : Bs} {m : PM} {L : List Item} (hin : Init I L w) (h : MachAt I mb sp dig m L) (hd : dig.length = 32) (hm : m.Ok) {bs : List Nat} {x : Nat} (hbr : m.br = bs ++ [x]) :
    Calls Tryz.prog 91 #[.pointer (some ⟨mb, 0, none⟩), .int .u8 103] w (RPost boolR L I w mb sp dig (flowM 103 m)) := by
  have hS := hin.nx
  have hb := hm.br
  obtain ⟨ba, bc, L2, rfl, hst⟩ := h
  have e : flowM 103 m = .ok (true, { m with br := bs ++ [elseN x] }) := by unfold flowM; rw [hbr]; simp
  rw [e]
  rw [hbr] at hS hb ⊢
  obtain ⟨n, hn⟩ : ∃ n, n = (bs ++ [x]).length := ⟨_, rfl⟩
  obtain ⟨k, hk⟩ : ∃ k, k = bs.length := ⟨_, rfl⟩
  have hnk : n = k + 1 := by rw [hn, hk]; simp
  have hn2 : (bs ++ [elseN x]).length = n := by rw [hn]; simp
  have Hn2 := Lib.hid hn2
  rw [← hn] at hS hb ⊢
  obtain ⟨g, rfl, hgc⟩ := hS.row_ad (i := 1) rfl (by omega)
  obtain ⟨rest, hxl, hmc, hcm, hcl, hS2⟩ := hS.openRow (i := 1) rfl
  have hS := hS2
  clear hS2
  simp only [List.set_cons_succ, List.set_cons_zero] at hS
  have hcell : (brV (bs ++ [x]) ++ rest)[k]? = some (.int .i64 (x : Nat)) := by rw [hk]; simp [brV]
  have hklt : k < (brV (bs ++ [x]) ++ rest).length := (List.getElem?_eq_some_iff.1 hcell).1
  have hset : ∀ y : Nat, (brV (bs ++ [x]) ++ rest).set k (.int .i64 (y : Nat)) = brV (bs ++ [y]) ++ rest := fun y => by
    rw [hk]; simp [brV]
  have Hset := Lib.hid hset
  have hn0 : ¬ (n : Int) - 1 < 0 := by omega
  have hnk1 : (n : Int) - 1 = (k : Nat) := by omega
  have hk0 : ¬ (k : Int) < 0 := by omega
  have hkn : (k : Int) < n := by omega
  have hknn : k < n := by omega
  have Hnk := Lib.hid hnk
  have Hk := Lib.hid hk
  clear hn hk hnk e hbr hset hn2
  by_cases x2 : x = 2
  · subst x2
    go_enter Tryz.func91, Tryz.ntmps91
    go_wp2_with (first | ((with_reducible refine gL_load ?_); first | (refine sL_load hS rfl _ _ rfl _ _ rfl 0 _ _ rfl _ (f33 hd _ _) ?_) | (refine sL_load hS rfl _ _ rfl _ _ rfl 1 _ _ rfl _ hcell ?_)) | ((with_reducible refine gL_store ?_); refine sL_store hS rfl _ _ _ rfl _ _ rfl 1 _ _ rfl (.int .i64 1) rfl rfl hklt ?_; clear hS; intro w' hS; simp only [List.set_cons_zero, List.set_cons_succ] at hS))
    go_ret
    have hs1 := Hset.out 1
    rw [show ((1 : Nat) : Int) = 1 from rfl] at hs1
    rw [hs1] at hS
    have hK := hS.closeRow (i := 1) rfl 1 n bc (brV (bs ++ [1])) rest rfl (by have := Hnk.out; have := Hk.out; simp [brV]; omega) hmc hcm (by rw [List.length_append] at hcl ⊢; simp [brV] at hcl ⊢; omega)
    exact ⟨I, _, _, rfl, rfl, hK, _, bc, L2, by rw [Hn2.out]; rfl, hst⟩
  · by_cases x1 : x = 1
    · subst x1
      go_enter Tryz.func91, Tryz.ntmps91
      go_wp2_with (first | ((with_reducible refine gL_load ?_); first | (refine sL_load hS rfl _ _ rfl _ _ rfl 0 _ _ rfl _ (f33 hd _ _) ?_) | (refine sL_load hS rfl _ _ rfl _ _ rfl 1 _ _ rfl _ hcell ?_)) | ((with_reducible refine gL_store ?_); refine sL_store hS rfl _ _ _ rfl _ _ rfl 1 _ _ rfl (.int .i64 2) rfl rfl hklt ?_; clear hS; intro w' hS; simp only [List.set_cons_zero, List.set_cons_succ] at hS))
      go_ret
      have hs1 := Hset.out 2
      rw [show ((2 : Nat) : Int) = 2 from rfl] at hs1
      rw [hs1] at hS
      have hK := hS.closeRow (i := 1) rfl 1 n bc (brV (bs ++ [2])) rest rfl (by have := Hnk.out; have := Hk.out; simp [brV]; omega) hmc hcm (by rw [List.length_append] at hcl ⊢; simp [brV] at hcl ⊢; omega)
      exact ⟨I, _, _, rfl, rfl, hK, _, bc, L2, by rw [Hn2.out]; rfl, hst⟩
    · have x2i : ¬ (x : Int) = 2 := by omega
      have x1i : ¬ (x : Int) = 1 := by omega
      have hex : elseN x = x := by unfold elseN; rw [if_neg x2, if_neg x1]
      have Hex := Lib.hid hex
      clear x2 x1 hex
      go_enter Tryz.func91, Tryz.ntmps91
      go_wp2_with (first | ((with_reducible refine gL_load ?_); first | (refine sL_load hS rfl _ _ rfl _ _ rfl 0 _ _ rfl _ (f33 hd _ _) ?_) | (refine sL_load hS rfl _ _ rfl _ _ rfl 1 _ _ rfl _ hcell ?_)))
      go_ret
      have hK := hS.closeRow (i := 1) rfl 1 n bc (brV (bs ++ [x])) rest rfl (by have := Hnk.out; have := Hk.out; simp [brV]; omega) hmc hcm (by rw [List.length_append] at hcl ⊢; simp [brV] at hcl ⊢; omega)
      exact ⟨I, _, _, rfl, rfl, hK, _, bc, L2, by rw [Hn2.out, Hex.out]; rfl, hst⟩

theorem flowNo_spec {I : Imm} {w : World} {mb sp : Nat} {dig : Bs} {m : PM} {L : List Item} (hin : Init I L w) (h : MachAt I mb sp dig m L) (hd : dig.length = 32) (hm : m.Ok) {c : UInt8} (h1 : ¬ c = 99) (h2 : ¬ c = 100) (h3 : ¬ c = 103) (h4 : ¬ c = 104) :
    Calls Tryz.prog 91 #[.pointer (some ⟨mb, 0, none⟩), bv c] w (RPost boolR L I w mb sp dig (flowM c m)) := by
  have hS := hin.nx
  have hma := h
  have hb := hm.br
  obtain ⟨ba, bc, L2, rfl, hst⟩ := h
  have e : flowM c m = .ok (false, m) := by unfold flowM; rw [if_neg (by rintro (h | h); exact h1 h; exact h2 h), if_neg h3, if_neg h4]
  rw [e]
  obtain ⟨n, hn⟩ : ∃ n : Int, n = c.toNat := ⟨_, rfl⟩
  have hcv : bv c = .int .u8 n := by rw [hn]
  rw [hcv]
  replace h1 := ne_code c 99 99 rfl h1 hn
  replace h2 := ne_code c 100 100 rfl h2 hn
  replace h3 := ne_code c 103 103 rfl h3 hn
  replace h4 := ne_code c 104 104 rfl h4 hn
  clear hn hcv e
  go_enter Tryz.func91, Tryz.ntmps91
  go_wp2_with (first | ((with_reducible refine gL_load ?_); refine sL_load hS rfl _ _ rfl _ _ rfl 0 _ _ rfl _ (f33 hd _ _) ?_))
  go_ret
  exact ⟨I, _, _, rfl, rfl, hS, hma⟩
theorem flow_spec {I : Imm} {w : World} {mb sp : Nat} {dig : Bs} {m : PM} {L : List Item} (hin : Init I L w) (h : MachAt I mb sp dig m L) (hd : dig.length = 32) (hm : m.Ok) {c : UInt8} :
    Calls Tryz.prog 91 #[.pointer (some ⟨mb, 0, none⟩), bv c] w (RPost boolR L I w mb sp dig (flowM c m)) := by
  by_cases h12 : c = 99 ∨ c = 100
  · exact flowIf_spec hin h hd hm h12
  · by_cases hbr : m.br = []
    · by_cases h34 : c = 103 ∨ c = 104
      · exact flowEndE_spec hin h hd h34 hbr
      · exact flowNo_spec hin h hd hm (fun e => h12 (.inl e)) (fun e => h12 (.inr e)) (fun e => h34 (.inl e)) (fun e => h34 (.inr e))
    · obtain ⟨bs, x, hbs⟩ := nat_snoc hbr
      by_cases h3 : c = 103
      · subst h3; exact flowElse_spec hin h hd hm hbs
      · by_cases h4 : c = 104
        · subst h4; exact flowEnd_spec hin h hd hm hbs
        · exact flowNo_spec hin h hd hm (fun e => h12 (.inl e)) (fun e => h12 (.inr e)) h3 h4
end Go.Proofs.YtmlgieclkedomaaGreat

namespace Go.Proofs.YtmlgieclkedomaaGreat
open Go Go.RowKit
attribute [local irreducible] shaH

set_option maxRecDepth 10000 in
set_option maxHeartbeats 1000000 in
theorem hash_spec {I : Imm} {w : World} {mb sp : Nat} {dig : Bs} {m : PM} {L : List Item} (hin : Init I L w) (h : MachAt I mb sp dig m L) (hm : m.Ok) {c : UInt8} (hc : c = 168 ∨ c = 169 ∨ c = 170) :
    Calls Tryz.prog 138 #[.pointer (some ⟨mb, 0, none⟩), bv c] w (RPost anyR L I w mb sp dig (hashM shaH c m)) := by
  have hS := hin.nx
  have hpop := pop_spec hin h hm
  unfold RPost at hpop
  cases hp : popM m with
  | error e0 =>
    have e : hashM shaH c m = .error e0 := by unfold hashM; rw [hp]; rfl
    rw [hp] at hpop
    rw [e]
    go_enter Tryz.func138, Tryz.ntmps138
    go_wp2_with (first | (go_at_call 106; refine (hpop).mono ?_; rintro e w' ⟨rfl, J, L', hn⟩; replace hS := hS.trans hn; clear hn))
    exact ⟨rfl, rfl, J, _, hS⟩
  | ok bm =>
    obtain ⟨b, m2⟩ := bm
    obtain ⟨hm2, hbl⟩ := hm.pop hp
    have e : hashM shaH c m = pushM (hashOf shaH c b) m2 := by unfold hashM; rw [hp]; rfl
    rw [hp] at hpop
    rw [e]
    have hhl : (hashOf shaH c b).length ≤ 32 := by
      unfold hashOf
      split
      · rw [shaH_len]; omega
      · split
        · rw [shaH_len]; omega
        · rw [List.length_take, shaH_len]; omega
    obtain ⟨hh, hhe⟩ : ∃ hh, hh = hashOf shaH c b := ⟨_, rfl⟩
    rw [← hhe] at hhl ⊢
    have hpush := fun {I : Imm} {w : World} {L : List Item} (hin : Init I L w) (h : MachAt I mb sp dig m2 L) {v : Value} (hv : RdB I v hh) => mpush_spec hin h hm2 hv (by omega)
    unfold RPost at hpush
    rcases hc with rfl | rfl | rfl
    all_goals show Calls _ _ #[_, .int .u8 _] _ _
    · have hh1 : hh = shaH b := by rw [hhe]; rfl
      have hl32 : hh.length = 32 := by rw [hh1, shaH_len]
      have H1 := Lib.hid hh1
      clear hhe hh1
      cases hr : pushM hh m2 with
      | error e1 =>
        rw [hr] at hpush
        go_enter Tryz.func138, Tryz.ntmps138
        go_wp2_with (first | (go_at_call 106; refine (hpop).mono ?_; rintro e w' ⟨J, L', v, rfl, hrd, hn, hma⟩; replace hS := hS.trans hn; clear hn) | (go_at_call 57; refine (Of_spec hS.hI hrd (by omega)).mono ?_; rintro e w' ⟨J2, rfl, _, hn⟩; rw [← H1.out]; have hle2 := hn.le hS.hI; replace hS := hS.pure0 hn; clear hn) | (refine sL_alloc hS rfl 37 rfl ?_; clear hS; intro b5 w' hb5 hS) | (((with_reducible refine gL_store ?_); (refine sL_storeB hS rfl _ _ _ rfl _ rfl 0 _ _ rfl _ (by go_simp; first | exact rfl | exact ⟨rfl, rfl⟩) (by simp [hl32]) (by rfl) (bvs_one _) ?_; clear hS; intro w' hS; simp only [List.set_cons_zero] at hS)); refine Stop.of ?_))
        obtain ⟨K, hS3, hleK, hrdh⟩ := hS.freezeB (by assumption) 32 hl32 (by decide)
        clear hS
        have hS := hS3
        clear hS3
        refine Stop.to ?_
        go_wp2_with (first | (go_at_call 109; refine (hpush hS.toInit (hma.mono (hle2.trans hleK)) hrdh).mono ?_; rintro e w' ⟨rfl, J3, L3, hn⟩; replace hS := hS.trans hn; clear hn))
        exact ⟨rfl, rfl, J3, _, hS⟩
      | ok um =>
        rw [hr] at hpush
        go_enter Tryz.func138, Tryz.ntmps138
        go_wp2_with (first | (go_at_call 106; refine (hpop).mono ?_; rintro e w' ⟨J, L', v, rfl, hrd, hn, hma⟩; replace hS := hS.trans hn; clear hn) | (go_at_call 57; refine (Of_spec hS.hI hrd (by omega)).mono ?_; rintro e w' ⟨J2, rfl, _, hn⟩; rw [← H1.out]; have hle2 := hn.le hS.hI; replace hS := hS.pure0 hn; clear hn) | (refine sL_alloc hS rfl 37 rfl ?_; clear hS; intro b5 w' hb5 hS) | (((with_reducible refine gL_store ?_); (refine sL_storeB hS rfl _ _ _ rfl _ rfl 0 _ _ rfl _ (by go_simp; first | exact rfl | exact ⟨rfl, rfl⟩) (by simp [hl32]) (by rfl) (bvs_one _) ?_; clear hS; intro w' hS; simp only [List.set_cons_zero] at hS)); refine Stop.of ?_))
        obtain ⟨K, hS3, hleK, hrdh⟩ := hS.freezeB (by assumption) 32 hl32 (by decide)
        clear hS
        have hS := hS3
        clear hS3
        refine Stop.to ?_
        go_wp2_with (first | (go_at_call 109; refine (hpush hS.toInit (hma.mono (hle2.trans hleK)) hrdh).mono ?_; rintro e w' ⟨J3, L3, v3, rfl, _, hn, hma3⟩; replace hS := hS.trans hn; clear hn))
        exact bodyPost_end (results_none rfl _ _ _) rfl ⟨J3, L3, _, rfl, trivial, hS, hma3⟩
    · have hh1 : hh = (shaH (shaH b)).take 20 := by rw [hhe]; rfl
      have hl32 : hh.length = 20 := by rw [hh1, List.length_take, shaH_len]; rfl
      have H1 := Lib.hid hh1
      clear hhe hh1
      cases hr : pushM hh m2 with
      | error e1 =>
        rw [hr] at hpush
        go_enter Tryz.func138, Tryz.ntmps138
        go_wp2_with (first | (go_at_call 106; refine (hpop).mono ?_; rintro e w' ⟨J, L', v, rfl, hrd, hn, hma⟩; replace hS := hS.trans hn; clear hn) | (go_at_call 42; refine (Short_spec hS.hI hrd (by omega)).mono ?_; rintro e w' ⟨J2, sa, sc, rfl, hrds, hn⟩; have hle2 := hn.le hS.hI; replace hS := hS.pure0 hn; clear hn; refine Stop.of ?_))
        have hrdh : RdB J2 (.slice sa 20 sc) hh := by rw [H1.out]; exact hrds
        refine Stop.to ?_
        go_wp2_with (first | (go_at_call 109; refine (hpush hS.toInit (hma.mono hle2) hrdh).mono ?_; rintro e w' ⟨rfl, J3, L3, hn⟩; replace hS := hS.trans hn; clear hn))
        exact ⟨rfl, rfl, J3, _, hS⟩
      | ok um =>
        rw [hr] at hpush
        go_enter Tryz.func138, Tryz.ntmps138
        go_wp2_with (first | (go_at_call 106; refine (hpop).mono ?_; rintro e w' ⟨J, L', v, rfl, hrd, hn, hma⟩; replace hS := hS.trans hn; clear hn) | (go_at_call 42; refine (Short_spec hS.hI hrd (by omega)).mono ?_; rintro e w' ⟨J2, sa, sc, rfl, hrds, hn⟩; have hle2 := hn.le hS.hI; replace hS := hS.pure0 hn; clear hn; refine Stop.of ?_))
        have hrdh : RdB J2 (.slice sa 20 sc) hh := by rw [H1.out]; exact hrds
        refine Stop.to ?_
        go_wp2_with (first | (go_at_call 109; refine (hpush hS.toInit (hma.mono hle2) hrdh).mono ?_; rintro e w' ⟨J3, L3, v3, rfl, _, hn, hma3⟩; replace hS := hS.trans hn; clear hn))
        exact bodyPost_end (results_none rfl _ _ _) rfl ⟨J3, L3, _, rfl, trivial, hS, hma3⟩
    · have hh1 : hh = shaH (shaH b) := by rw [hhe]; rfl
      have hl32 : hh.length = 32 := by rw [hh1, shaH_len]
      have H1 := Lib.hid hh1
      clear hhe hh1
      cases hr : pushM hh m2 with
      | error e1 =>
        rw [hr] at hpush
        go_enter Tryz.func138, Tryz.ntmps138
        go_wp2_with (first | (go_at_call 106; refine (hpop).mono ?_; rintro e w' ⟨J, L', v, rfl, hrd, hn, hma⟩; replace hS := hS.trans hn; clear hn) | (go_at_call 65; refine (Twice31 Of_spec hS.hI hrd (by omega)).mono ?_; rintro e w' ⟨J2, rfl, _, hn⟩; rw [← H1.out]; have hle2 := hn.le hS.hI; replace hS := hS.pure0 hn; clear hn) | (refine sL_alloc hS rfl 37 rfl ?_; clear hS; intro b5 w' hb5 hS) | (((with_reducible refine gL_store ?_); (refine sL_storeB hS rfl _ _ _ rfl _ rfl 0 _ _ rfl _ (by go_simp; first | exact rfl | exact ⟨rfl, rfl⟩) (by simp [hl32]) (by rfl) (bvs_one _) ?_; clear hS; intro w' hS; simp only [List.set_cons_zero] at hS)); refine Stop.of ?_))
        obtain ⟨K, hS3, hleK, hrdh⟩ := hS.freezeB (by assumption) 32 hl32 (by decide)
        clear hS
        have hS := hS3
        clear hS3
        refine Stop.to ?_
        go_wp2_with (first | (go_at_call 109; refine (hpush hS.toInit (hma.mono (hle2.trans hleK)) hrdh).mono ?_; rintro e w' ⟨rfl, J3, L3, hn⟩; replace hS := hS.trans hn; clear hn))
        exact ⟨rfl, rfl, J3, _, hS⟩
      | ok um =>
        rw [hr] at hpush
        go_enter Tryz.func138, Tryz.ntmps138
        go_wp2_with (first | (go_at_call 106; refine (hpop).mono ?_; rintro e w' ⟨J, L', v, rfl, hrd, hn, hma⟩; replace hS := hS.trans hn; clear hn) | (go_at_call 65; refine (Twice31 Of_spec hS.hI hrd (by omega)).mono ?_; rintro e w' ⟨J2, rfl, _, hn⟩; rw [← H1.out]; have hle2 := hn.le hS.hI; replace hS := hS.pure0 hn; clear hn) | (refine sL_alloc hS rfl 37 rfl ?_; clear hS; intro b5 w' hb5 hS) | (((with_reducible refine gL_store ?_); (refine sL_storeB hS rfl _ _ _ rfl _ rfl 0 _ _ rfl _ (by go_simp; first | exact rfl | exact ⟨rfl, rfl⟩) (by simp [hl32]) (by rfl) (bvs_one _) ?_; clear hS; intro w' hS; simp only [List.set_cons_zero] at hS)); refine Stop.of ?_))
        obtain ⟨K, hS3, hleK, hrdh⟩ := hS.freezeB (by assumption) 32 hl32 (by decide)
        clear hS
        have hS := hS3
        clear hS3
        refine Stop.to ?_
        go_wp2_with (first | (go_at_call 109; refine (hpush hS.toInit (hma.mono (hle2.trans hleK)) hrdh).mono ?_; rintro e w' ⟨J3, L3, v3, rfl, _, hn, hma3⟩; replace hS := hS.trans hn; clear hn))
        exact bodyPost_end (results_none rfl _ _ _) rfl ⟨J3, L3, _, rfl, trivial, hS, hma3⟩
theorem verified_spec {w : World} {c : UInt8} : Calls Tryz.prog 115 #[bv c] w fun e w' => e = .returned (.bool (verifiedB c)) ∧ w = w' := by
  obtain ⟨n, hn⟩ : ∃ n : Int, n = c.toNat := ⟨_, rfl⟩
  have hcv : bv c = .int .u8 n := by rw [hn]
  have hv : verifiedB c = (decide (n = 136) || decide (n = 157) || decide (n = 173) || decide (n = 175)) := by
    unfold verifiedB
    have e1 := eq_code c 136 136 rfl hn
    have e2 := eq_code c 157 157 rfl hn
    have e3 := eq_code c 173 173 rfl hn
    have e4 := eq_code c 175 175 rfl hn
    simp only [e1, e2, e3, e4]
  rw [hcv, hv]
  clear hn hcv hv
  by_cases h1 : n = 136
  · subst h1
    go_enter Tryz.func115, Tryz.ntmps115
    go_wp2
    go_ret
    exact ⟨rfl, rfl⟩
  · by_cases h2 : n = 157
    · subst h2
      go_enter Tryz.func115, Tryz.ntmps115
      go_wp2
      go_ret
      exact ⟨rfl, rfl⟩
    · by_cases h3 : n = 173
      · subst h3
        go_enter Tryz.func115, Tryz.ntmps115
        go_wp2
        go_ret
        exact ⟨rfl, rfl⟩
      · by_cases h4 : n = 175
        · subst h4
          go_enter Tryz.func115, Tryz.ntmps115
          go_wp2
          go_ret
          exact ⟨rfl, rfl⟩
        · go_enter Tryz.func115, Tryz.ntmps115
          go_wp2
          go_ret
          exact ⟨ret_bool (by simp [h1, h2, h3, h4]), rfl⟩
end Go.Proofs.YtmlgieclkedomaaGreat

namespace Go.Proofs.YtmlgieclkedomaaGreat
open Go Go.RowKit

def revK (xs : List Value) (i : Nat) : List Value := (List.range xs.length).map fun j => if j < i ∨ xs.length - i ≤ j then xs.getD (xs.length - 1 - j) undef else xs.getD j undef
theorem revK_len (xs : List Value) (i : Nat) : (revK xs i).length = xs.length := by simp [revK]
theorem revK_get (xs : List Value) (i j : Nat) (hj : j < xs.length) : (revK xs i)[j]? = some (if j < i ∨ xs.length - i ≤ j then xs.getD (xs.length - 1 - j) undef else xs.getD j undef) := by
  simp [revK, hj]
theorem revK_zero (xs : List Value) : revK xs 0 = xs := by
  apply List.ext_getElem?
  intro j
  by_cases hj : j < xs.length
  · rw [revK_get xs 0 j hj, if_neg (by omega)]; simp [hj]
  · rw [List.getElem?_eq_none (by rw [revK_len]; omega), List.getElem?_eq_none (by omega)]
theorem revK_end (xs : List Value) (i : Nat) (h : xs.length ≤ 2 * i + 1) : revK xs i = xs.reverse := by
  apply List.ext_getElem?
  intro j
  by_cases hj : j < xs.length
  · rw [revK_get xs i j hj, List.getElem?_reverse hj]
    by_cases h1 : j < i ∨ xs.length - i ≤ j
    · rw [if_pos h1]; simp [List.getElem?_eq_getElem (show xs.length - 1 - j < xs.length by omega)]
    · rw [if_neg h1]
      have : xs.length - 1 - j = j := by omega
      rw [this]; simp [hj]
  · rw [List.getElem?_eq_none (by rw [revK_len]; omega), List.getElem?_eq_none (by simp; omega)]
theorem revK_step (xs : List Value) (i : Nat) (h : 2 * i + 1 < xs.length) :
    ((revK xs i).set i (xs.getD (xs.length - 1 - i) undef)).set (xs.length - 1 - i) (xs.getD i undef) = revK xs (i + 1) := by
  apply List.ext_getElem?
  intro j
  by_cases hj : j < xs.length
  · rw [revK_get xs (i + 1) j hj, List.getElem?_set]
    by_cases h1 : xs.length - 1 - i = j
    · rw [if_pos h1, if_pos (by rw [List.length_set, revK_len]; omega), if_pos (by omega)]
      rw [show xs.length - 1 - j = i by omega]
    · rw [if_neg h1, List.getElem?_set]
      by_cases h2 : i = j
      · rw [if_pos h2, if_pos (by rw [revK_len]; omega), if_pos (by omega), h2]
      · rw [if_neg h2, revK_get xs i j hj]
        by_cases h3 : j < i ∨ xs.length - i ≤ j
        · rw [if_pos h3, if_pos (by omega)]
        · rw [if_neg h3, if_neg (by omega)]
  · rw [List.getElem?_eq_none (by simp [revK_len]; omega), List.getElem?_eq_none (by rw [revK_len]; omega)]
set_option maxRecDepth 10000 in
set_option maxHeartbeats 1000000 in
theorem Reverse_spec {I : Imm} {w : World} {ad : Option Addr} {n c : Nat} {xs : List Value} (hin : Init I [.row 1 22 (.slice ad n c) n xs] w) (h1 : ∀ u ∈ xs, u.oneCell' = true) (hlen : n ≤ 100000) :
    Calls Tryz.prog 170 #[.slice ad n c] w fun e w' => (∃ v, e = .returned v) ∧ Nx [.row 1 22 (.slice ad n c) n xs] I w I [.row 1 22 (.slice ad n c) n xs.reverse] w' := by
  have hS := hin.nx
  have hxl : xs.length = n := by obtain ⟨_, _, _, _, h, _⟩ := hS.rowVal (i := 0) rfl; omega
  by_cases h0 : n = 0
  · subst h0
    have hx : xs = [] := List.eq_nil_of_length_eq_zero hxl
    go_enter Tryz.func170, Tryz.ntmps170
    go_wp2
    go_loopw [2, 3] (fun v2 v3 wr => v2 = .int .i64 0 ∧ v3 = .int .i64 (-1) ∧ w = wr) (fun _ _ _ => 0)
    case atStart => exact ⟨rfl, rfl, rfl⟩
    case round =>
      obtain ⟨rfl, rfl, rfl⟩ := hrel
      go_wp2
      subst hx
      exact bodyPost_end (results_none rfl _ _ _) rfl ⟨⟨_, rfl⟩, hS⟩
  · obtain ⟨g, rfl, hgc⟩ := hS.row_ad (i := 0) rfl h0
    obtain ⟨rest, hxl2, hmc, hcm, hcl, hS2⟩ := hS.openRow (i := 0) rfl
    have hS := hS2
    clear hS2
    simp only [List.set_cons_zero] at hS
    have hxx : xs = revK xs 0 := (revK_zero xs).symm
    have Hxx := Lib.hid hxx
    have Hxl := Lib.hid hxl
    clear hxx hxl
    go_enter Tryz.func170, Tryz.ntmps170
    go_wp2
    go_loopw [2, 3] (fun v2 v3 wr => ∃ i, 2 * i ≤ n ∧ v2 = .int .i64 (i : Nat) ∧ v3 = .int .i64 ((n : Int) - 1 - (i : Nat)) ∧ Nx [.row 1 22 (.slice (some ⟨g, 0, none⟩) n c) n xs] I w I [.blk g (revK xs i ++ rest) 22] wr) (fun v2 _ _ => n - (intOf v2).toNat)
    case atStart => exact ⟨0, by omega, rfl, by simp, by rw [← Hxx.out]; exact hS⟩
    case round =>
      clear hS
      obtain ⟨i, hi, rfl, rfl, hS⟩ := hrel
      by_cases hlt : 2 * i + 1 < n
      · obtain ⟨j, hj⟩ : ∃ j, j = n - 1 - i := ⟨_, rfl⟩
        have hji : (n : Int) - 1 - (i : Nat) = (j : Nat) := by omega
        rw [hji]
        have hij : (i : Int) < j := by omega
        have hin2 : (i : Int) < n := by omega
        have hjn : (j : Int) < n := by omega
        have hil : i < (revK xs i ++ rest).length := by rw [List.length_append, revK_len, Hxl.out]; omega
        have hjl : j < (revK xs i ++ rest).length := by rw [List.length_append, revK_len, Hxl.out]; omega
        have hci : (revK xs i ++ rest)[i]? = some (xs.getD i undef) := by
          rw [List.getElem?_append_left (by rw [revK_len, Hxl.out]; omega), revK_get xs i i (by rw [Hxl.out]; omega), if_neg (by rw [Hxl.out]; omega)]
        have hcj : (revK xs i ++ rest)[j]? = some (xs.getD j undef) := by
          rw [List.getElem?_append_left (by rw [revK_len, Hxl.out]; omega), revK_get xs i j (by rw [Hxl.out]; omega), if_neg (by rw [Hxl.out]; omega)]
        have hst := revK_step xs i (by rw [Hxl.out]; exact hlt)
        rw [Hxl.out, ← hj] at hst
        have ho : ∀ q, q < n → (xs.getD q undef).oneCell' = true := fun q hq => h1 _ (by
          have hl := Hxl.out
          rw [List.getD_eq_getElem?_getD, List.getElem?_eq_getElem (by omega)]; exact List.getElem_mem _)
        have hoi := ho i (by omega)
        have hoj := ho j (by omega)
        generalize xs.getD i undef = xi at hci hst hoi
        generalize xs.getD j undef = xj at hcj hst hoj
        have Hst := Lib.hid hst
        have Hj := Lib.hid hj
        clear hst hji ho hj
        go_wp2
        replace hS := hS.drew
        refine rg_start (fun w => w.cell? ⟨g, i, none⟩ = some xi ∧ w.cell? ⟨g, j, none⟩ = some xj) [11] (by kernel_rfl) ?_
        -- P0 P1 P2 P3 P4 P5 P6 P8 P9 P10 L7 L11 P12 S13 P14 S15
        (refine rg_pure (v := ?v0u1) 0 rfl (by kernel_rfl) (fun _ _ _ h => h) rfl ?hy0u1 ?rest0u1; (case hy0u1 => (intro w; go_simp; try with_reducible rfl)); (try simp only [Act.put, List.setIfInBounds_toArray, List.set_cons_zero, List.set_cons_succ]))
        (refine rg_pure (v := ?v1u1) 1 rfl (by kernel_rfl) (fun _ _ _ h => h) rfl ?hy1u1 ?rest1u1; (case hy1u1 => (intro w; go_simp; try with_reducible rfl)); (try simp only [Act.put, List.setIfInBounds_toArray, List.set_cons_zero, List.set_cons_succ]))
        (refine rg_pure (v := ?v2u1) 2 rfl (by kernel_rfl) (fun _ _ _ h => h) rfl ?hy2u1 ?rest2u1; (case hy2u1 => (intro w; go_simp; try with_reducible rfl)); (try simp only [Act.put, List.setIfInBounds_toArray, List.set_cons_zero, List.set_cons_succ]))
        (refine rg_pure (v := ?v3u1) 3 rfl (by kernel_rfl) (fun _ _ _ h => h) rfl ?hy3u1 ?rest3u1; (case hy3u1 => (intro w; go_simp; try with_reducible rfl)); (try simp only [Act.put, List.setIfInBounds_toArray, List.set_cons_zero, List.set_cons_succ]))
        (refine rg_pure (v := ?v4u1) 4 rfl (by kernel_rfl) (fun _ _ _ h => h) rfl ?hy4u1 ?rest4u1; (case hy4u1 => (intro w; go_simp; try with_reducible rfl)); (try simp only [Act.put, List.setIfInBounds_toArray, List.set_cons_zero, List.set_cons_succ]))
        (refine rg_pure (v := ?v5u1) 5 rfl (by kernel_rfl) (fun _ _ _ h => h) rfl ?hy5u1 ?rest5u1; (case hy5u1 => (intro w; go_simp; try with_reducible rfl)); (try simp only [Act.put, List.setIfInBounds_toArray, List.set_cons_zero, List.set_cons_succ]))
        (refine rg_pure (v := ?v6u1) 6 rfl (by kernel_rfl) (fun _ _ _ h => h) rfl ?hy6u1 ?rest6u1; (case hy6u1 => (intro w; go_simp; try with_reducible rfl)); (try simp only [Act.put, List.setIfInBounds_toArray, List.set_cons_zero, List.set_cons_succ]))
        (refine rg_pure (v := ?v8u1) 8 rfl (by kernel_rfl) (fun _ _ _ h => h) rfl ?hy8u1 ?rest8u1; (case hy8u1 => (intro w; go_simp; try with_reducible rfl)); (try simp only [Act.put, List.setIfInBounds_toArray, List.set_cons_zero, List.set_cons_succ]))
        (refine rg_pure (v := ?v9u1) 9 rfl (by kernel_rfl) (fun _ _ _ h => h) rfl ?hy9u1 ?rest9u1; (case hy9u1 => (intro w; go_simp; try with_reducible rfl)); (try simp only [Act.put, List.setIfInBounds_toArray, List.set_cons_zero, List.set_cons_succ]))
        (refine rg_pure (v := ?v10u1) 10 rfl (by kernel_rfl) (fun _ _ _ h => h) rfl ?hy10u1 ?rest10u1; (case hy10u1 => (intro w; go_simp; try with_reducible rfl)); (try simp only [Act.put, List.setIfInBounds_toArray, List.set_cons_zero, List.set_cons_succ]))
        ((first | (refine rg_load 7 rfl (by kernel_rfl) rfl (by exact ⟨hS.blkCell 0 rfl i hci, hS.blkCell 0 rfl j hcj⟩) _ _ rfl _ _ rfl _ (fun w hS => hS.1) (fun _ _ _ h => h) ?_) | (refine rg_load 7 rfl (by kernel_rfl) rfl (by exact ⟨hS.blkCell 0 rfl i hci, hS.blkCell 0 rfl j hcj⟩) _ _ rfl _ _ rfl _ (fun w hS => hS.2) (fun _ _ _ h => h) ?_)); (try simp only [Act.put, List.setIfInBounds_toArray, List.set_cons_zero, List.set_cons_succ]))
        ((first | (refine rg_load 11 rfl (by kernel_rfl) rfl (by exact ⟨hS.blkCell 0 rfl i hci, hS.blkCell 0 rfl j hcj⟩) _ _ rfl _ _ rfl _ (fun w hS => hS.1) (fun _ _ _ h => h) ?_) | (refine rg_load 11 rfl (by kernel_rfl) rfl (by exact ⟨hS.blkCell 0 rfl i hci, hS.blkCell 0 rfl j hcj⟩) _ _ rfl _ _ rfl _ (fun w hS => hS.2) (fun _ _ _ h => h) ?_)); (try simp only [Act.put, List.setIfInBounds_toArray, List.set_cons_zero, List.set_cons_succ]))
        (refine rg_pure (v := ?v12u1) 12 rfl (by kernel_rfl) (fun _ _ _ h => h) rfl ?hy12u1 ?rest12u1; (case hy12u1 => (intro w; go_simp; try with_reducible rfl)); (try simp only [Act.put, List.setIfInBounds_toArray, List.set_cons_zero, List.set_cons_succ]))
        (refine rg_step 13 rfl (by kernel_rfl) (fun K' hK => ?_); go_wp2_with (first | ((with_reducible refine gL_store ?_); (first | (refine sL_store hS rfl _ _ _ rfl _ i rfl 0 _ _ rfl xj rfl hoj hil ?_) | (refine sL_store hS rfl _ _ _ rfl _ j rfl 0 _ _ rfl xi rfl hoi (by first | exact hjl | (rw [List.length_set]; exact hjl)) ?_)); clear hS; intro w' hS; simp only [List.set_cons_zero] at hS)); (try with_reducible refine rg_back ?_); refine hK.out _ _ (fun h => absurd h (by decide)) ?_; clear hK; clear K'; (try simp only [Act.put, List.setIfInBounds_toArray, List.set_cons_zero, List.set_cons_succ]))
        (refine rg_pure (v := ?v14u1) 14 rfl (by kernel_rfl) (fun _ _ _ h => h) rfl ?hy14u1 ?rest14u1; (case hy14u1 => (intro w; go_simp; try with_reducible rfl)); (try simp only [Act.put, List.setIfInBounds_toArray, List.set_cons_zero, List.set_cons_succ]))
        (refine rg_step 15 rfl (by kernel_rfl) (fun K' hK => ?_); go_wp2_with (first | ((with_reducible refine gL_store ?_); (first | (refine sL_store hS rfl _ _ _ rfl _ i rfl 0 _ _ rfl xj rfl hoj hil ?_) | (refine sL_store hS rfl _ _ _ rfl _ j rfl 0 _ _ rfl xi rfl hoi (by first | exact hjl | (rw [List.length_set]; exact hjl)) ?_)); clear hS; intro w' hS; simp only [List.set_cons_zero] at hS)); (try with_reducible refine rg_back ?_); refine hK.out _ _ (fun h => absurd h (by decide)) ?_; clear hK; clear K'; (try simp only [Act.put, List.setIfInBounds_toArray, List.set_cons_zero, List.set_cons_succ]))
        refine rg_done (by kernel_rfl) ?_
        have hcs : (((revK xs i ++ rest).set i xj).set j xi) = revK xs (i + 1) ++ rest := by
          rw [List.set_append_left _ _ (by rw [revK_len, Hxl.out]; omega), List.set_append_left _ _ (by rw [List.length_set, revK_len, Hxl.out]; omega), Hst.out]
        rw [hcs] at hS
        clear hcs
        go_wp2
        have hjj := Hj.out
        go_roundw
        case rel => exact ⟨i + 1, by omega, by simp, by congr 1; omega, hS⟩
        case measure => simp [intOf]; omega
      · have hni : ¬ (i : Int) < (n : Int) - 1 - i := by omega
        go_wp2
        rw [revK_end xs i (by rw [Hxl.out]; omega)] at hS
        have hK := hS.closeRow (i := 0) rfl 1 n c xs.reverse rest rfl (by rw [List.length_reverse, Hxl.out]; omega) hmc hcm (by rw [List.length_append] at hcl ⊢; rw [List.length_reverse]; omega)
        exact bodyPost_end (results_none rfl _ _ _) rfl ⟨⟨_, rfl⟩, hK⟩
end Go.Proofs.YtmlgieclkedomaaGreat

namespace Go.Proofs.YtmlgieclkedomaaGreat
open Go Go.RowKit

def listR : List Bs → Imm → Value → Prop := fun l J v => RepsRd J v l
theorem PM.Ok.cutK {m : PM} (hm : m.Ok) (k : Nat) : ({ m with stk := m.stk.take k } : PM).Ok :=
  ⟨by have := hm.many; simp; omega, fun b hb => hm.len b (List.mem_of_mem_take hb), hm.alt, hm.br, hm.cnt⟩
theorem RepsB.reverse {I : Imm} {l : List Bs} {xs : List Value} (h : Reps I l xs) : Reps I l.reverse xs.reverse := by
  induction l generalizing xs with
  | nil =>
    have : xs = [] := List.eq_nil_of_length_eq_zero (by simpa using RepsB.len h)
    subst this; exact h
  | cons a l ih =>
    have hl := RepsB.len h
    match xs, hl, h with
    | x :: xs, _, h =>
      have h1 := RepsB.take h 1
      have h2 := RepsB.drop h 1
      simp only [List.take_succ_cons, List.take_zero, List.drop_succ_cons, List.drop_zero] at h1 h2
      rw [List.reverse_cons, List.reverse_cons]
      exact (ih h2).append h1
set_option maxRecDepth 10000 in
set_option maxHeartbeats 2000000 in
theorem several_spec {I : Imm} {w : World} {mb sp : Nat} {dig : Bs} {m : PM} {L : List Item} (hin : Init I L w) (h : MachAt I mb sp dig m L) (hm : m.Ok) {n : Nat} (hn : n ≤ 1000) :
    Calls Tryz.prog 167 #[.pointer (some ⟨mb, 0, none⟩), .int .i64 n] w (RPost listR L I w mb sp dig (severalM n m)) := by
  have hS := hin.nx
  obtain ⟨R, hR⟩ : ∃ R, R = severalM n m := ⟨_, rfl⟩
  rw [← hR]
  have HR := Lib.hid hR
  clear hR
  have hm1 := hm.many
  obtain ⟨len, hlen⟩ : ∃ len, len = m.stk.length := ⟨_, rfl⟩
  have Hlen := Lib.hid hlen
  rw [← hlen] at hm1
  clear hlen
  replace hS := hS.nilRow 1 22
  go_enter Tryz.func167, Tryz.ntmps167
  go_wp2
  go_loopw [5, 7] (fun v5 v7 wr => ∃ i K L' a c xs, i ≤ n ∧ i ≤ len ∧ v7 = .int .i64 (i : Nat) ∧ v5 = .slice a i c ∧ Nx L I w K (.row 1 22 (.slice a i c) i xs :: L') wr ∧ MachAt K mb sp dig { m with stk := m.stk.take (len - i) } L' ∧ Reps K ((m.stk.drop (len - i)).reverse) xs ∧ (∀ g, (Value.slice a i c).ownBlock = some g → w.heap.size ≤ g)) (fun _ v7 _ => n - (intOf v7).toNat)
  case atStart =>
    refine ⟨0, I, L, none, 0, [], by omega, by omega, rfl, rfl, hS, ?_, ?_, ?_⟩
    · rw [Hlen.out, Nat.sub_zero, List.take_length]; exact h
    · rw [Hlen.out, Nat.sub_zero, List.drop_length]; exact (RepsB.drop (Reps.single (I := I) ⟨none, 0, rfl, RdB.nil⟩ : Reps I [([] : Bs)] _) 1)
    · intro g hg; simp [Value.ownBlock] at hg
  case round =>
    clear hS
    obtain ⟨i, K, L', a, c, xs, hi, hil, rfl, rfl, hS, hma, hre, hown⟩ := hrel
    by_cases hlt : i < n
    · have hmi := hm.cutK (len - i)
      have hpop := pop_spec (Init.right (L := [_]) hS.toInit) hma hmi
      unfold RPost at hpop
      by_cases hl : i < len
      · obtain ⟨b, hb⟩ : ∃ b, m.stk.take (len - i) = m.stk.take (len - (i + 1)) ++ [b] ∧ m.stk.drop (len - (i + 1)) = b :: m.stk.drop (len - i) := by
          have hle := Hlen.out
          refine ⟨m.stk[len - (i + 1)], ?_, ?_⟩
          · rw [show len - i = len - (i + 1) + 1 by omega, List.take_succ_eq_append_getElem (by omega)]
          · rw [show len - i = len - (i + 1) + 1 by omega, ← List.drop_eq_getElem_cons]
        have hp := popM_snoc (m := { m with stk := m.stk.take (len - i) }) hb.1
        rw [hp] at hpop
        have hbl : b.length ≤ 1000 := hmi.len b (by show b ∈ m.stk.take (len - i); rw [hb.1]; simp)
        have Hb := Lib.hid hb.2
        have Hre := Lib.hid hre
        clear hb hp hmi hma hre
        go_wp2_with (first | ((go_at_call 106; refine (hpop).mono ?_; rintro e w' ⟨J, L2, v, rfl, hrd, hn2, hma2⟩; have hleJ := hn2.le (Init.right (L := [_]) hS.toInit).hI; replace hS := Nx.callTail (L2 := [_]) hS hn2; clear hn2; obtain ⟨va, vc, rfl, -, -, -⟩ := hrd.ex; simp only [List.cons_append, List.nil_append] at hS)) | ((with_reducible refine gL_lit ?_); first | (refine sL_lit0 hS rfl _ rfl ?_; clear hS; intro lb w' hlb hS) | (refine sL_lit1 hS rfl _ _ rfl _ (by go_simp; first | exact rfl | exact ⟨rfl, rfl⟩) rfl ?_; clear hS; intro lb w' hlb hS) | (refine sL_lit2 hS rfl _ _ _ rfl _ _ (by go_simp; first | exact rfl | exact ⟨rfl, rfl⟩) (by go_simp; first | exact rfl | exact ⟨rfl, rfl⟩) rfl rfl ?_; clear hS; intro lb w' hlb hS) | (refine sL_lit12 hS rfl _ _ rfl _ _ (by go_simp; first | exact rfl | exact ⟨rfl, rfl⟩) ?_; clear hS; intro lb w' hlb hS)) | ((with_reducible refine gL_app ?_); refine sL_append hS rfl _ _ _ rfl 1 _ _ _ rfl rfl _ _ _ _ rfl rfl (hS.srcBlk (i := 0) rfl) (by simp [Value.oneCell']) (by omega) ?_; clear hS; intro ad' c' w' hS hnil hown2; simp only [List.set_cons_zero, List.set_cons_succ] at hS; replace hS := hS.drop))
        have hr3 : Reps J ((m.stk.drop (len - (i + 1))).reverse) (xs ++ [.slice va b.length vc]) := by
          rw [Hb.out, List.reverse_cons]; exact (Hre.out.mono hleJ).append (RepsB.one hrd)
        go_roundw
        case rel => exact ⟨i + 1, J, L2, ad', c', _, hlt, by omega, by simp, rfl, hS, hma2, hr3, fun g hg => (hown2 g hg).elim (hown g) id⟩
        case measure => simp [intOf]; omega
      · have hp := popM_nil (m := { m with stk := m.stk.take (len - i) }) (by show m.stk.take (len - i) = []; rw [show len - i = 0 by omega, List.take_zero])
        rw [hp] at hpop
        have hsev : R = .error 120 := by rw [HR.out]; unfold severalM; rw [if_pos (by rw [← Hlen.out]; omega)]
        rw [hsev]
        go_wp2_with (first | ((go_at_call 106; refine (hpop).mono ?_; rintro e w' ⟨rfl, J, L2, hn2⟩; replace hS := Nx.callTail (L2 := [_]) hS hn2; clear hn2)))
        exact ⟨rfl, rfl, J, _, hS⟩
    · obtain rfl : i = n := by omega
      have hone := Reps.one hre
      have hsev : R = .ok (lastN m.stk i, { m with stk := butN m.stk i }) := by rw [HR.out]; unfold severalM; rw [if_neg (by rw [← Hlen.out]; omega)]
      go_wp2_with (first | (go_at_call 170; refine (Reverse_spec (hS.toInit.left (L := [_])) hone (by omega)).mono ?_; rintro e w' ⟨⟨v, rfl⟩, hn2⟩; replace hS := Nx.call (L1 := [_]) hS hn2; clear hn2; simp only [List.set_cons_zero, List.set_cons_succ, List.cons_append, List.nil_append] at hS))
      obtain ⟨K2, hS2, hle2, hrd⟩ := hS.freezeRow hown
      go_ret
      show RPost _ _ _ _ _ _ _ _ _ _
      rw [hsev]
      have hr2 := RepsB.reverse hre
      rw [List.reverse_reverse] at hr2
      have hll : (m.stk.drop (len - i)).length = i := by rw [List.length_drop, ← Hlen.out]; omega
      refine ⟨K2, _, _, rfl, ⟨xs.reverse, ?_, ?_⟩, hS2, ?_⟩
      · show Rd K2 _ (lastN m.stk i).length _
        unfold lastN; rw [← Hlen.out, hll]; exact hrd
      · unfold lastN; rw [← Hlen.out]; exact hr2.mono hle2
      · have hma3 := hma.mono hle2
        unfold butN; rw [← Hlen.out]; exact hma3
end Go.Proofs.YtmlgieclkedomaaGreat

namespace Go.Proofs.YtmlgieclkedomaaGreat
open Go Go.RowKit

/-- one key -/
def matchStep (H : Bs → Bs) (dig key : Bs) : List Bs → List Bs
  | [] => []
  | s :: r => if isSig H key s dig then r else s :: r
theorem matchR_cons (H : Bs → Bs) (dig k : Bs) (ks s : List Bs) : matchR H dig (k :: ks) s = matchR H dig ks (matchStep H dig k s) := by
  cases s with
  | nil => rfl
  | cons a r =>
    by_cases h : isSig H k a dig = true
    · simp [matchR, matchStep, h]
    · simp [matchR, matchStep, h]
theorem RepsRd.tail {I : Imm} {ad : Option Addr} {n c : Nat} {a : Bs} {l : List Bs} (h : RepsRd I (.slice ad n c) (a :: l)) (hn : (a :: l).length = n) : RepsRd I (.slice (adrop ad 1 c 1) (n - 1) (c - 1)) l := by
  obtain ⟨xs, hr, hx⟩ := h
  have hxl := RepsB.len hx
  have hd := RepsB.drop hx 1
  obtain ⟨ad0, c0, e, h1, h2, h3⟩ := hr.ex
  simp only [Value.slice.injEq] at e
  obtain ⟨rfl, hnn, rfl⟩ := e
  have hr' := hr
  rw [hn] at hr'
  have := Rd.sub (s := 1) hr' (by rw [hxl, hn]; simp) (by decide) 1 n c (by simp at hn; omega) (Nat.le_refl _) (by rw [← hn]; exact h1) (Nat.le_refl _)
  simp only [List.drop_succ_cons, List.drop_zero] at hd
  refine ⟨xs.drop 1, ?_, hd⟩
  have e1 : ((xs.drop (1 * 1)).take ((n - 1) * 1)) = xs.drop 1 := by rw [List.take_of_length_le (by rw [List.length_drop, hxl, hn]; omega)]
  rw [e1] at this
  have e2 : l.length = n - 1 := by simp at hn; omega
  rw [e2]; exact this
set_option maxRecDepth 10000 in
set_option maxHeartbeats 2000000 in
theorem Match_spec {H : List UInt8 → List UInt8} (hO : HashSpec 57 H) {I : Imm} {w : World} (hI : I.Holds w) {vk vs : Value} {keys sigs : List Bs} {dig : Bs} (hk : RepsRd I vk keys) (hs : RepsRd I vs sigs) (hd : dig.length = 32) (hkl : keys.length ≤ 1000) (hsl : sigs.length ≤ 1000) :
    Calls Tryz.prog 31 #[vk, vs, hashV dig] w fun e w' => ∃ J, e = .returned (.bool (matchB H dig keys sigs)) ∧ Nx [] I w J [] w' := by
  have hS := Nx.nil hI
  have hl1 : (bvs dig).length = 32 := by simp [hd]
  have hkk := hk
  obtain ⟨xk, hrk, hxk⟩ := hk
  obtain ⟨ka, kc, rfl, hk1, hk2, hk3⟩ := hrk.ex
  obtain ⟨xs0, hrs, hxs0⟩ := hs
  obtain ⟨sa, sc, rfl, -, -, -⟩ := hrs.ex
  have hss : RepsRd I (.slice sa sigs.length sc) sigs := ⟨xs0, hrs, hxs0⟩
  obtain ⟨R, hR⟩ : ∃ R, R = matchB H dig keys sigs := ⟨_, rfl⟩
  rw [← hR]
  have HR := Lib.hid hR
  obtain ⟨n, hn⟩ : ∃ n, n = keys.length := ⟨_, rfl⟩
  rw [← hn] at hkl hk1 hkk ⊢
  have Hn := Lib.hid hn
  clear hR hrs hxs0 hrk hxk hk3 hk2 hn
  go_enter Tryz.func31, Tryz.ntmps31
  go_wp2_with (refine sL_box hS rfl _ _ rfl (bvs dig) rfl ?_; clear hS; intro b5 w' hb hS; obtain ⟨J1, hS1, hle1, hat5⟩ := hS.freezeBlk hb; clear hS; have hS := hS1; clear hS1)
  go_loopw [1, 11] (fun v1 v11 wr => ∃ i K a c r, i ≤ n ∧ v11 = .int .i64 (i : Nat) ∧ v1 = .slice a r.length c ∧ r.length ≤ 1000 ∧ J1.Le K ∧ RepsRd K (.slice a r.length c) r ∧ matchR H dig (keys.drop i) r = matchR H dig keys sigs ∧ Nx [] I w K [] wr) (fun _ v11 _ => n - (intOf v11).toNat)
  case atStart => exact ⟨0, J1, sa, sc, sigs, by omega, rfl, rfl, hsl, Imm.Le.refl _, hss.mono hle1, rfl, hS⟩
  case round =>
    clear hS
    obtain ⟨i, K, a, c, r, hi, rfl, rfl, hrl, hleK, hr, hmr, hS⟩ := hrel
    by_cases hlt : i < n
    · obtain ⟨kb, kj, kcs, rfl, hkat, hkcell⟩ := (hkk.mono (hle1.trans hleK)).at i (by rw [← Hn.out]; exact hlt)
      obtain ⟨ua, uc, rfl, hkrd⟩ := hkcell
      rw [show Rep.sz (List UInt8) = 1 from rfl, Nat.mul_one] at hkat
      obtain ⟨key, hkey⟩ : ∃ key, key = keys[i]'(by rw [← Hn.out]; exact hlt) := ⟨_, rfl⟩
      rw [← hkey] at hkat hkrd
      have hdr : keys.drop i = key :: keys.drop (i + 1) := by rw [hkey]; exact List.drop_eq_getElem_cons (by rw [← Hn.out]; exact hlt)
      rw [hdr, matchR_cons] at hmr
      have hcell : wr.cell? ⟨kb, kj + i, none⟩ = some (.slice ua key.length uc) := by have := hkat.cell hS.hI 0 (u := .slice ua key.length uc) rfl; simpa using this
      cases r with
      | nil =>
        have Hmr := Lib.hid hmr
        clear hkey hdr hmr
        go_wp2_with (first | ((with_reducible refine gL_load ?_); refine sL_loadC rfl _ _ rfl _ _ rfl _ hcell ?_))
        replace hS := hS.drew
        refine rg_start (fun _ => True) [8, 10] (by kernel_rfl) ?_
        -- P0 P1 P2 P3 P4 P5 P6 L7 L8 S9 P10
        (refine rg_pure (v := ?v0u1) 0 rfl (by kernel_rfl) (fun _ _ _ h => h) rfl ?hy0u1 ?rest0u1; (case hy0u1 => (intro w; go_simp; try with_reducible rfl)); (try simp only [Act.put, List.setIfInBounds_toArray, List.set_cons_zero, List.set_cons_succ]))
        (refine rg_pure (v := ?v1u1) 1 rfl (by kernel_rfl) (fun _ _ _ h => h) rfl ?hy1u1 ?rest1u1; (case hy1u1 => (intro w; go_simp; try with_reducible rfl)); (try simp only [Act.put, List.setIfInBounds_toArray, List.set_cons_zero, List.set_cons_succ]))
        (refine rg_pure (v := ?v2u1) 2 rfl (by kernel_rfl) (fun _ _ _ h => h) rfl ?hy2u1 ?rest2u1; (case hy2u1 => (intro w; go_simp; try with_reducible rfl)); (try simp only [Act.put, List.setIfInBounds_toArray, List.set_cons_zero, List.set_cons_succ]))
        (refine rg_pure (v := ?v3u1) 3 rfl (by kernel_rfl) (fun _ _ _ h => h) rfl ?hy3u1 ?rest3u1; (case hy3u1 => (intro w; go_simp; try with_reducible rfl)); (try simp only [Act.put, List.setIfInBounds_toArray, List.set_cons_zero, List.set_cons_succ]))
        first | (refine rg_pure (v := ?v4u1) 4 rfl (by kernel_rfl) (fun _ _ _ h => h) rfl ?hy4u1 ?rest4u1; (case hy4u1 => (intro w; go_simp; try with_reducible rfl)); (try simp only [Act.put, List.setIfInBounds_toArray, List.set_cons_zero, List.set_cons_succ])) | (refine rg_skip 4 rfl (by kernel_rfl) (fun _ _ _ h => h) rfl ?_; (try simp only [Act.put, List.setIfInBounds_toArray, List.set_cons_zero, List.set_cons_succ]))
        first | (refine rg_pure (v := ?v5u1) 5 rfl (by kernel_rfl) (fun _ _ _ h => h) rfl ?hy5u1 ?rest5u1; (case hy5u1 => (intro w; go_simp; try with_reducible rfl)); (try simp only [Act.put, List.setIfInBounds_toArray, List.set_cons_zero, List.set_cons_succ])) | (refine rg_skip 5 rfl (by kernel_rfl) (fun _ _ _ h => h) rfl ?_; (try simp only [Act.put, List.setIfInBounds_toArray, List.set_cons_zero, List.set_cons_succ]))
        first | (refine rg_pure (v := ?v6u1) 6 rfl (by kernel_rfl) (fun _ _ _ h => h) rfl ?hy6u1 ?rest6u1; (case hy6u1 => (intro w; go_simp; try with_reducible rfl)); (try simp only [Act.put, List.setIfInBounds_toArray, List.set_cons_zero, List.set_cons_succ])) | (refine rg_skip 6 rfl (by kernel_rfl) (fun _ _ _ h => h) rfl ?_; (try simp only [Act.put, List.setIfInBounds_toArray, List.set_cons_zero, List.set_cons_succ]))
        first | ((first | (refine rg_load 7 rfl (by kernel_rfl) rfl (by trivial) _ _ rfl _ _ rfl _ (fun w hS => hS) (fun _ _ _ h => h) ?_)); (try simp only [Act.put, List.setIfInBounds_toArray, List.set_cons_zero, List.set_cons_succ])) | (refine rg_skipS 7 rfl (by kernel_rfl) (fun _ _ _ h => h) rfl (by trivial) ?_; (try simp only [Act.put, List.setIfInBounds_toArray, List.set_cons_zero, List.set_cons_succ]))
        first | ((first | (refine rg_load 8 rfl (by kernel_rfl) rfl (by trivial) _ _ rfl _ _ rfl _ (fun w hS => hS) (fun _ _ _ h => h) ?_)); (try simp only [Act.put, List.setIfInBounds_toArray, List.set_cons_zero, List.set_cons_succ])) | (refine rg_skipS 8 rfl (by kernel_rfl) (fun _ _ _ h => h) rfl (by trivial) ?_; (try simp only [Act.put, List.setIfInBounds_toArray, List.set_cons_zero, List.set_cons_succ]))
        first | (refine rg_step 9 rfl (by kernel_rfl) (fun K' hK => ?_); go_wp2_with (first | fail); (try with_reducible refine rg_back ?_); refine hK.out _ _ (fun h => absurd h (by decide)) ?_; clear hK; clear K'; (try simp only [Act.put, List.setIfInBounds_toArray, List.set_cons_zero, List.set_cons_succ])) | (refine rg_step 9 rfl (by kernel_rfl) (fun K' hK => ?_); go_wp2; (try with_reducible refine rg_back ?_); refine hK.out _ _ (fun h => absurd h (by decide)) ?_; clear hK; clear K'; (try simp only [Act.put, List.setIfInBounds_toArray, List.set_cons_zero, List.set_cons_succ]))
        (refine rg_pureS (v := ?v10u1) 10 rfl (by kernel_rfl) (fun _ _ _ h => h) rfl (by trivial) ?hy10u1 ?rest10u1; (case hy10u1 => (intro w; go_simp; try with_reducible rfl)); (try simp only [Act.put, List.setIfInBounds_toArray, List.set_cons_zero, List.set_cons_succ]))
        refine rg_done (by kernel_rfl) ?_
        go_wp2
        go_roundw
        case rel => exact ⟨i + 1, K, a, c, [], hlt, by simp, rfl, by simp, hleK, hr, Hmr.out, hS⟩
        case measure => simp [intOf]; omega
      | cons s0 r1 =>
        have Hmr := Lib.hid hmr
        clear hkey hdr hmr
        obtain ⟨n2, hn2⟩ : ∃ n2, n2 = (s0 :: r1).length := ⟨_, rfl⟩
        have hn2p : (0 : Int) < n2 := by rw [hn2]; simp; try omega
        have hn2n : 0 < n2 := by omega
        have hrr := hr
        rw [← hn2] at hr hrl hrr ⊢
        obtain ⟨rb, rj, rcs, rfl, hrat, hrcell⟩ := hr.at 0 (by simp)
        obtain ⟨ta, tc, rfl, hsrd⟩ := hrcell
        rw [Nat.zero_mul, Nat.add_zero] at hrat
        simp only [List.getElem_cons_zero] at hrat hsrd
        have htail := RepsRd.tail hrr hn2.symm
        have htl : r1.length = n2 - 1 := by rw [hn2]; simp
        have hcap : 1 ≤ c ∧ n2 ≤ c := by
          obtain ⟨ys, hy, _⟩ := hrr
          obtain ⟨_, _, e, q1, _⟩ := hy.ex
          simp only [Value.slice.injEq] at e
          obtain ⟨_, _, rfl⟩ := e
          omega
        have hat5K := hat5.mono hleK
        have hIs := fun {J : Imm} {w : World} (hle : K.Le J) (hI : J.Holds w) => Is_spec hO hI (hkrd.mono hle) (hsrd.mono hle) hd
        have Hn2 := Lib.hid hn2
        clear hn2
        cases hb : isSig H key s0 dig with
        | true =>
          have Hb := Lib.hid hb
          clear hb
          go_wp2_with (first | ((with_reducible refine gL_load ?_); refine sL_loadC rfl _ _ rfl _ _ rfl _ hcell ?_))
          replace hS := hS.drew
          refine rg_start (fun w => w.cell? ⟨rb, rj, none⟩ = some (.slice ta s0.length tc) ∧ (∀ i u, (bvs dig)[i]? = some u → w.cell? ⟨b5, 0 + i, none⟩ = some u)) [8, 10] (by kernel_rfl) ?_
          -- P0 P1 P2 P3 P4 P5 P6 L7 L8 S9 P10
          (refine rg_pure (v := ?v0u2) 0 rfl (by kernel_rfl) (fun _ _ _ h => h) rfl ?hy0u2 ?rest0u2; (case hy0u2 => (intro w; go_simp; try with_reducible rfl)); (try simp only [Act.put, List.setIfInBounds_toArray, List.set_cons_zero, List.set_cons_succ]))
          (refine rg_pure (v := ?v1u2) 1 rfl (by kernel_rfl) (fun _ _ _ h => h) rfl ?hy1u2 ?rest1u2; (case hy1u2 => (intro w; go_simp; try with_reducible rfl)); (try simp only [Act.put, List.setIfInBounds_toArray, List.set_cons_zero, List.set_cons_succ]))
          (refine rg_pure (v := ?v2u2) 2 rfl (by kernel_rfl) (fun _ _ _ h => h) rfl ?hy2u2 ?rest2u2; (case hy2u2 => (intro w; go_simp; try with_reducible rfl)); (try simp only [Act.put, List.setIfInBounds_toArray, List.set_cons_zero, List.set_cons_succ]))
          (refine rg_pure (v := ?v3u2) 3 rfl (by kernel_rfl) (fun _ _ _ h => h) rfl ?hy3u2 ?rest3u2; (case hy3u2 => (intro w; go_simp; try with_reducible rfl)); (try simp only [Act.put, List.setIfInBounds_toArray, List.set_cons_zero, List.set_cons_succ]))
          first | (refine rg_pure (v := ?v4u2) 4 rfl (by kernel_rfl) (fun _ _ _ h => h) rfl ?hy4u2 ?rest4u2; (case hy4u2 => (intro w; go_simp; try with_reducible rfl)); (try simp only [Act.put, List.setIfInBounds_toArray, List.set_cons_zero, List.set_cons_succ])) | (refine rg_skip 4 rfl (by kernel_rfl) (fun _ _ _ h => h) rfl ?_; (try simp only [Act.put, List.setIfInBounds_toArray, List.set_cons_zero, List.set_cons_succ]))
          first | (refine rg_pure (v := ?v5u2) 5 rfl (by kernel_rfl) (fun _ _ _ h => h) rfl ?hy5u2 ?rest5u2; (case hy5u2 => (intro w; go_simp; try with_reducible rfl)); (try simp only [Act.put, List.setIfInBounds_toArray, List.set_cons_zero, List.set_cons_succ])) | (refine rg_skip 5 rfl (by kernel_rfl) (fun _ _ _ h => h) rfl ?_; (try simp only [Act.put, List.setIfInBounds_toArray, List.set_cons_zero, List.set_cons_succ]))
          first | (refine rg_pure (v := ?v6u2) 6 rfl (by kernel_rfl) (fun _ _ _ h => h) rfl ?hy6u2 ?rest6u2; (case hy6u2 => (intro w; go_simp; try with_reducible rfl)); (try simp only [Act.put, List.setIfInBounds_toArray, List.set_cons_zero, List.set_cons_succ])) | (refine rg_skip 6 rfl (by kernel_rfl) (fun _ _ _ h => h) rfl ?_; (try simp only [Act.put, List.setIfInBounds_toArray, List.set_cons_zero, List.set_cons_succ]))
          first | ((first | (refine rg_load 7 rfl (by kernel_rfl) rfl (by exact ⟨by have := hrat.cell hS.hI 0 (u := .slice ta s0.length tc) rfl; simpa using this, hat5K.cellA hS.hI⟩) _ _ rfl _ _ rfl _ (fun w hS => hS.1) (fun _ _ _ h => h) ?_) | (refine rg_loadA 7 rfl (by kernel_rfl) rfl (by exact ⟨by have := hrat.cell hS.hI 0 (u := .slice ta s0.length tc) rfl; simpa using this, hat5K.cellA hS.hI⟩) _ _ rfl _ _ rfl _ hl1 (fun w hS => hS.2) (fun _ _ _ h => h) ?_)); (try simp only [Act.put, List.setIfInBounds_toArray, List.set_cons_zero, List.set_cons_succ])) | (refine rg_skipS 7 rfl (by kernel_rfl) (fun _ _ _ h => h) rfl (by exact ⟨by have := hrat.cell hS.hI 0 (u := .slice ta s0.length tc) rfl; simpa using this, hat5K.cellA hS.hI⟩) ?_; (try simp only [Act.put, List.setIfInBounds_toArray, List.set_cons_zero, List.set_cons_succ]))
          first | ((first | (refine rg_load 8 rfl (by kernel_rfl) rfl (by exact ⟨by have := hrat.cell hS.hI 0 (u := .slice ta s0.length tc) rfl; simpa using this, hat5K.cellA hS.hI⟩) _ _ rfl _ _ rfl _ (fun w hS => hS.1) (fun _ _ _ h => h) ?_) | (refine rg_loadA 8 rfl (by kernel_rfl) rfl (by exact ⟨by have := hrat.cell hS.hI 0 (u := .slice ta s0.length tc) rfl; simpa using this, hat5K.cellA hS.hI⟩) _ _ rfl _ _ rfl _ hl1 (fun w hS => hS.2) (fun _ _ _ h => h) ?_)); (try simp only [Act.put, List.setIfInBounds_toArray, List.set_cons_zero, List.set_cons_succ])) | (refine rg_skipS 8 rfl (by kernel_rfl) (fun _ _ _ h => h) rfl (by exact ⟨by have := hrat.cell hS.hI 0 (u := .slice ta s0.length tc) rfl; simpa using this, hat5K.cellA hS.hI⟩) ?_; (try simp only [Act.put, List.setIfInBounds_toArray, List.set_cons_zero, List.set_cons_succ]))
          first | (refine rg_step 9 rfl (by kernel_rfl) (fun K' hK => ?_); go_wp2_with (first | (go_at_call 29; refine (hIs (Imm.Le.refl _) hS.hI).mono ?_; rintro e w' ⟨J2, rfl, hn⟩; rw [Hb.out]; have hle2 := hn.le hS.hI; replace hS := hS.pure0 hn; clear hn; replace hrat := hrat.mono hle2; replace hat5K := hat5K.mono hle2)); (try with_reducible refine rg_back ?_); refine hK.out _ _ (fun h => absurd h (by decide)) ?_; clear hK; clear K'; (try simp only [Act.put, List.setIfInBounds_toArray, List.set_cons_zero, List.set_cons_succ])) | (refine rg_step 9 rfl (by kernel_rfl) (fun K' hK => ?_); go_wp2; (try with_reducible refine rg_back ?_); refine hK.out _ _ (fun h => absurd h (by decide)) ?_; clear hK; clear K'; (try simp only [Act.put, List.setIfInBounds_toArray, List.set_cons_zero, List.set_cons_succ]))
          (refine rg_pureS (v := ?v10u2) 10 rfl (by kernel_rfl) (fun _ _ _ h => h) rfl (by exact ⟨by have := hrat.cell hS.hI 0 (u := .slice ta s0.length tc) rfl; simpa using this, hat5K.cellA hS.hI⟩) ?hy10u2 ?rest10u2; (case hy10u2 => (intro w; go_simp; try with_reducible rfl)); (try simp only [Act.put, List.setIfInBounds_toArray, List.set_cons_zero, List.set_cons_succ]))
          refine rg_done (by kernel_rfl) ?_
          go_wp2_with (first | ((with_reducible refine gL_slice ?_); refine sL_slice rfl _ _ _ _ _ rfl _ _ _ rfl (1) (n2) (c) (by first | rfl | (show _ = _; omega) | (show _ = _; simp; done) | (show _ = _; simp; omega)) (by first | rfl | (show _ = _; omega) | (show _ = _; simp; done) | (show _ = _; simp; omega)) (by first | rfl | (show _ = _; omega) | (show _ = _; simp; done) | (show _ = _; simp; omega)) (by omega) (by omega) (by omega) (by simp) ?_))
          go_roundw
          case rel => exact ⟨i + 1, J2, _, _, r1, hlt, by simp, by rw [htl], by rw [htl]; omega, hleK.trans hle2, by rw [htl]; exact htail.mono hle2, by rw [← Hmr.out]; simp [matchStep, Hb.out], hS⟩
          case measure => simp [intOf]; omega
        | false =>
          have Hb := Lib.hid hb
          clear hb
          go_wp2_with (first | ((with_reducible refine gL_load ?_); refine sL_loadC rfl _ _ rfl _ _ rfl _ hcell ?_))
          replace hS := hS.drew
          refine rg_start (fun w => w.cell? ⟨rb, rj, none⟩ = some (.slice ta s0.length tc) ∧ (∀ i u, (bvs dig)[i]? = some u → w.cell? ⟨b5, 0 + i, none⟩ = some u)) [8, 10] (by kernel_rfl) ?_
          -- P0 P1 P2 P3 P4 P5 P6 L7 L8 S9 P10
          (refine rg_pure (v := ?v0u3) 0 rfl (by kernel_rfl) (fun _ _ _ h => h) rfl ?hy0u3 ?rest0u3; (case hy0u3 => (intro w; go_simp; try with_reducible rfl)); (try simp only [Act.put, List.setIfInBounds_toArray, List.set_cons_zero, List.set_cons_succ]))
          (refine rg_pure (v := ?v1u3) 1 rfl (by kernel_rfl) (fun _ _ _ h => h) rfl ?hy1u3 ?rest1u3; (case hy1u3 => (intro w; go_simp; try with_reducible rfl)); (try simp only [Act.put, List.setIfInBounds_toArray, List.set_cons_zero, List.set_cons_succ]))
          (refine rg_pure (v := ?v2u3) 2 rfl (by kernel_rfl) (fun _ _ _ h => h) rfl ?hy2u3 ?rest2u3; (case hy2u3 => (intro w; go_simp; try with_reducible rfl)); (try simp only [Act.put, List.setIfInBounds_toArray, List.set_cons_zero, List.set_cons_succ]))
          (refine rg_pure (v := ?v3u3) 3 rfl (by kernel_rfl) (fun _ _ _ h => h) rfl ?hy3u3 ?rest3u3; (case hy3u3 => (intro w; go_simp; try with_reducible rfl)); (try simp only [Act.put, List.setIfInBounds_toArray, List.set_cons_zero, List.set_cons_succ]))
          first | (refine rg_pure (v := ?v4u3) 4 rfl (by kernel_rfl) (fun _ _ _ h => h) rfl ?hy4u3 ?rest4u3; (case hy4u3 => (intro w; go_simp; try with_reducible rfl)); (try simp only [Act.put, List.setIfInBounds_toArray, List.set_cons_zero, List.set_cons_succ])) | (refine rg_skip 4 rfl (by kernel_rfl) (fun _ _ _ h => h) rfl ?_; (try simp only [Act.put, List.setIfInBounds_toArray, List.set_cons_zero, List.set_cons_succ]))
          first | (refine rg_pure (v := ?v5u3) 5 rfl (by kernel_rfl) (fun _ _ _ h => h) rfl ?hy5u3 ?rest5u3; (case hy5u3 => (intro w; go_simp; try with_reducible rfl)); (try simp only [Act.put, List.setIfInBounds_toArray, List.set_cons_zero, List.set_cons_succ])) | (refine rg_skip 5 rfl (by kernel_rfl) (fun _ _ _ h => h) rfl ?_; (try simp only [Act.put, List.setIfInBounds_toArray, List.set_cons_zero, List.set_cons_succ]))
          first | (refine rg_pure (v := ?v6u3) 6 rfl (by kernel_rfl) (fun _ _ _ h => h) rfl ?hy6u3 ?rest6u3; (case hy6u3 => (intro w; go_simp; try with_reducible rfl)); (try simp only [Act.put, List.setIfInBounds_toArray, List.set_cons_zero, List.set_cons_succ])) | (refine rg_skip 6 rfl (by kernel_rfl) (fun _ _ _ h => h) rfl ?_; (try simp only [Act.put, List.setIfInBounds_toArray, List.set_cons_zero, List.set_cons_succ]))
          first | ((first | (refine rg_load 7 rfl (by kernel_rfl) rfl (by exact ⟨by have := hrat.cell hS.hI 0 (u := .slice ta s0.length tc) rfl; simpa using this, hat5K.cellA hS.hI⟩) _ _ rfl _ _ rfl _ (fun w hS => hS.1) (fun _ _ _ h => h) ?_) | (refine rg_loadA 7 rfl (by kernel_rfl) rfl (by exact ⟨by have := hrat.cell hS.hI 0 (u := .slice ta s0.length tc) rfl; simpa using this, hat5K.cellA hS.hI⟩) _ _ rfl _ _ rfl _ hl1 (fun w hS => hS.2) (fun _ _ _ h => h) ?_)); (try simp only [Act.put, List.setIfInBounds_toArray, List.set_cons_zero, List.set_cons_succ])) | (refine rg_skipS 7 rfl (by kernel_rfl) (fun _ _ _ h => h) rfl (by exact ⟨by have := hrat.cell hS.hI 0 (u := .slice ta s0.length tc) rfl; simpa using this, hat5K.cellA hS.hI⟩) ?_; (try simp only [Act.put, List.setIfInBounds_toArray, List.set_cons_zero, List.set_cons_succ]))
          first | ((first | (refine rg_load 8 rfl (by kernel_rfl) rfl (by exact ⟨by have := hrat.cell hS.hI 0 (u := .slice ta s0.length tc) rfl; simpa using this, hat5K.cellA hS.hI⟩) _ _ rfl _ _ rfl _ (fun w hS => hS.1) (fun _ _ _ h => h) ?_) | (refine rg_loadA 8 rfl (by kernel_rfl) rfl (by exact ⟨by have := hrat.cell hS.hI 0 (u := .slice ta s0.length tc) rfl; simpa using this, hat5K.cellA hS.hI⟩) _ _ rfl _ _ rfl _ hl1 (fun w hS => hS.2) (fun _ _ _ h => h) ?_)); (try simp only [Act.put, List.setIfInBounds_toArray, List.set_cons_zero, List.set_cons_succ])) | (refine rg_skipS 8 rfl (by kernel_rfl) (fun _ _ _ h => h) rfl (by exact ⟨by have := hrat.cell hS.hI 0 (u := .slice ta s0.length tc) rfl; simpa using this, hat5K.cellA hS.hI⟩) ?_; (try simp only [Act.put, List.setIfInBounds_toArray, List.set_cons_zero, List.set_cons_succ]))
          first | (refine rg_step 9 rfl (by kernel_rfl) (fun K' hK => ?_); go_wp2_with (first | (go_at_call 29; refine (hIs (Imm.Le.refl _) hS.hI).mono ?_; rintro e w' ⟨J2, rfl, hn⟩; rw [Hb.out]; have hle2 := hn.le hS.hI; replace hS := hS.pure0 hn; clear hn; replace hrat := hrat.mono hle2; replace hat5K := hat5K.mono hle2)); (try with_reducible refine rg_back ?_); refine hK.out _ _ (fun h => absurd h (by decide)) ?_; clear hK; clear K'; (try simp only [Act.put, List.setIfInBounds_toArray, List.set_cons_zero, List.set_cons_succ])) | (refine rg_step 9 rfl (by kernel_rfl) (fun K' hK => ?_); go_wp2; (try with_reducible refine rg_back ?_); refine hK.out _ _ (fun h => absurd h (by decide)) ?_; clear hK; clear K'; (try simp only [Act.put, List.setIfInBounds_toArray, List.set_cons_zero, List.set_cons_succ]))
          (refine rg_pureS (v := ?v10u3) 10 rfl (by kernel_rfl) (fun _ _ _ h => h) rfl (by exact ⟨by have := hrat.cell hS.hI 0 (u := .slice ta s0.length tc) rfl; simpa using this, hat5K.cellA hS.hI⟩) ?hy10u3 ?rest10u3; (case hy10u3 => (intro w; go_simp; try with_reducible rfl)); (try simp only [Act.put, List.setIfInBounds_toArray, List.set_cons_zero, List.set_cons_succ]))
          refine rg_done (by kernel_rfl) ?_
          go_wp2
          go_roundw
          case rel => exact ⟨i + 1, J2, _, _, s0 :: r1, hlt, by simp, by rw [← Hn2.out], by rw [← Hn2.out]; omega, hleK.trans hle2, by rw [← Hn2.out]; exact hr.mono hle2, by rw [← Hmr.out]; simp [matchStep, Hb.out], hS⟩
          case measure => simp [intOf]; omega
    · obtain rfl : i = n := by omega
      rw [Hn.out, List.drop_length] at hmr
      have hres : R = decide (r.length = 0) := by
        rw [HR.out]; unfold matchB; rw [← hmr]
        cases r <;> simp [matchR]
      have Hres := Lib.hid hres
      clear hres hmr
      by_cases h0 : r.length = 0
      · have h0i : (r.length : Int) = 0 := by omega
        go_wp2
        go_ret
        exact ⟨K, ret_bool (by rw [Hres.out]; simp [h0]), hS⟩
      · have h0i : ¬ (r.length : Int) = 0 := by omega
        go_wp2
        go_ret
        exact ⟨K, ret_bool (by rw [Hres.out]; simp [h0]), hS⟩
end Go.Proofs.YtmlgieclkedomaaGreat

namespace Go.Proofs.YtmlgieclkedomaaGreat
open Go Go.RowKit
attribute [local irreducible] shaH

theorem upToM_ok {most : Nat} {m m2 : PM} {n : Nat} (hm : m.Ok) (h : upToM most m = .ok (n, m2)) : n ≤ most ∧ m2.Ok := by
  unfold upToM at h
  cases hp : numM m with
  | error e => rw [hp] at h; cases h
  | ok nm =>
    obtain ⟨k, m3⟩ := nm
    rw [hp] at h
    simp only [bindM, okM] at h
    split at h
    · cases h
    · cases h; exact ⟨by omega, numM_ok hm hp⟩
theorem countM_ok {k : Nat} {m m2 : PM} {u : Unit} (hm : m.Ok) (h : countM k m = .ok (u, m2)) : m2.Ok := by
  unfold countM at h
  split at h
  · cases h
  · cases h; exact ⟨hm.many, hm.len, hm.alt, hm.br, by show _ ≤ _; simp only; omega⟩
theorem severalM_ok {k : Nat} {m m2 : PM} {l : List Bs} (hm : m.Ok) (h : severalM k m = .ok (l, m2)) : m2.Ok ∧ l.length = k := by
  unfold severalM at h
  split at h
  · cases h
  · cases h; exact ⟨hm.cutK _, by unfold lastN; rw [List.length_drop]; omega⟩
set_option maxRecDepth 10000 in
set_option maxHeartbeats 4000000 in
theorem multi_spec {I : Imm} {w : World} {mb sp : Nat} {dig : Bs} {m : PM} {L : List Item} (hin : Init I L w) (h : MachAt I mb sp dig m L) (hd : dig.length = 32) (hm : m.Ok) :
    Calls Tryz.prog 139 #[.pointer (some ⟨mb, 0, none⟩)] w (RPost anyR L I w mb sp dig (multiM shaH dig m)) := by
  have hS := hin.nx
  obtain ⟨R, hR⟩ : ∃ R, R = multiM shaH dig m := ⟨_, rfl⟩
  rw [← hR]
  unfold multiM at hR
  have h0 := fun {I : Imm} {w : World} {L : List Item} (hin : Init I L w) (h : MachAt I mb sp dig m L) => upTo_spec (dig := dig) (most := 20) hin h hm (by decide)
  unfold RPost at h0
  cases hr0 : upToM 20 m with
  | error e0 =>
    rw [hr0] at h0 hR
    simp only [bindM] at hR
    rw [hR]
    clear hR
    go_enter Tryz.func139, Tryz.ntmps139
    go_wp2_with (first | (go_at_call 166; refine (h0 hin h).mono ?_; rintro e w' ⟨rfl, J0, L0, hn⟩; replace hS := hS.trans hn; clear hn))
    exact ⟨rfl, rfl, J0, _, hS⟩
  | ok r0 =>
    obtain ⟨n, m1⟩ := r0
    rw [hr0] at h0 hR
    simp only [bindM] at hR
    obtain ⟨hb0, hm1⟩ := upToM_ok hm hr0
    clear hr0
    have h1 := fun {I : Imm} {w : World} {L : List Item} (hin : Init I L w) (h : MachAt I mb sp dig m1 L) => count_spec (dig := dig) (n := n) hin h hd hm1 (by omega)
    unfold RPost at h1
    cases hr1 : countM n m1 with
    | error e0 =>
      rw [hr1] at h1 hR
      simp only [bindM] at hR
      rw [hR]
      clear hR
      go_enter Tryz.func139, Tryz.ntmps139
      go_wp2_with (first | ((go_at_call 166; refine (h0 hin h).mono ?_; rintro e w' ⟨J0, L0, v0, rfl, hv0, hn, hma0⟩; replace hS := hS.trans hn; clear hn; unfold natR at hv0; subst hv0); refine Stop.of ?_))
      refine Stop.to ?_
      go_wp2_with (first | (go_at_call 105; refine (h1 hS.toInit hma0).mono ?_; rintro e w' ⟨rfl, J1, L1, hn⟩; replace hS := hS.trans hn; clear hn))
      exact ⟨rfl, rfl, J1, _, hS⟩
    | ok r1 =>
      obtain ⟨u, m2⟩ := r1
      rw [hr1] at h1 hR
      simp only [bindM] at hR
      have hm2 := countM_ok hm1 hr1
      clear hr1
      have h2 := fun {I : Imm} {w : World} {L : List Item} (hin : Init I L w) (h : MachAt I mb sp dig m2 L) => several_spec (dig := dig) (n := n) hin h hm2 (by omega)
      unfold RPost at h2
      cases hr2 : severalM n m2 with
      | error e0 =>
        rw [hr2] at h2 hR
        simp only [bindM] at hR
        rw [hR]
        clear hR
        go_enter Tryz.func139, Tryz.ntmps139
        go_wp2_with (first | ((go_at_call 166; refine (h0 hin h).mono ?_; rintro e w' ⟨J0, L0, v0, rfl, hv0, hn, hma0⟩; replace hS := hS.trans hn; clear hn; unfold natR at hv0; subst hv0); refine Stop.of ?_))
        refine Stop.to ?_
        go_wp2_with (first | ((go_at_call 105; refine (h1 hS.toInit hma0).mono ?_; rintro e w' ⟨J1, L1, v1, rfl, hv1, hn, hma1⟩; replace hS := hS.trans hn; clear hn); refine Stop.of ?_))
        refine Stop.to ?_
        go_wp2_with (first | (go_at_call 167; refine (h2 hS.toInit hma1).mono ?_; rintro e w' ⟨rfl, J2, L2, hn⟩; replace hS := hS.trans hn; clear hn))
        exact ⟨rfl, rfl, J2, _, hS⟩
      | ok r2 =>
        obtain ⟨keys, m3⟩ := r2
        rw [hr2] at h2 hR
        simp only [bindM] at hR
        obtain ⟨hm3, hb2⟩ := severalM_ok hm2 hr2
        clear hr2
        have h3 := fun {I : Imm} {w : World} {L : List Item} (hin : Init I L w) (h : MachAt I mb sp dig m3 L) => upTo_spec (dig := dig) (most := n) hin h hm3 (by omega)
        unfold RPost at h3
        cases hr3 : upToM n m3 with
        | error e0 =>
          rw [hr3] at h3 hR
          simp only [bindM] at hR
          rw [hR]
          clear hR
          go_enter Tryz.func139, Tryz.ntmps139
          go_wp2_with (first | ((go_at_call 166; refine (h0 hin h).mono ?_; rintro e w' ⟨J0, L0, v0, rfl, hv0, hn, hma0⟩; replace hS := hS.trans hn; clear hn; unfold natR at hv0; subst hv0); refine Stop.of ?_))
          refine Stop.to ?_
          go_wp2_with (first | ((go_at_call 105; refine (h1 hS.toInit hma0).mono ?_; rintro e w' ⟨J1, L1, v1, rfl, hv1, hn, hma1⟩; replace hS := hS.trans hn; clear hn); refine Stop.of ?_))
          refine Stop.to ?_
          go_wp2_with (first | ((go_at_call 167; refine (h2 hS.toInit hma1).mono ?_; rintro e w' ⟨J2, L2, v2, rfl, hv2, hn, hma2⟩; have hle2 := hn.le hS.hI; replace hS := hS.trans hn; clear hn); refine Stop.of ?_))
          refine Stop.to ?_
          go_wp2_with (first | (go_at_call 166; refine (h3 hS.toInit hma2).mono ?_; rintro e w' ⟨rfl, J3, L3, hn⟩; replace hS := hS.trans hn; clear hn))
          exact ⟨rfl, rfl, J3, _, hS⟩
        | ok r3 =>
          obtain ⟨k, m4⟩ := r3
          rw [hr3] at h3 hR
          simp only [bindM] at hR
          obtain ⟨hb3, hm4⟩ := upToM_ok hm3 hr3
          clear hr3
          have h4 := fun {I : Imm} {w : World} {L : List Item} (hin : Init I L w) (h : MachAt I mb sp dig m4 L) => several_spec (dig := dig) (n := k) hin h hm4 (by omega)
          unfold RPost at h4
          cases hr4 : severalM k m4 with
          | error e0 =>
            rw [hr4] at h4 hR
            simp only [bindM] at hR
            rw [hR]
            clear hR
            go_enter Tryz.func139, Tryz.ntmps139
            go_wp2_with (first | ((go_at_call 166; refine (h0 hin h).mono ?_; rintro e w' ⟨J0, L0, v0, rfl, hv0, hn, hma0⟩; replace hS := hS.trans hn; clear hn; unfold natR at hv0; subst hv0); refine Stop.of ?_))
            refine Stop.to ?_
            go_wp2_with (first | ((go_at_call 105; refine (h1 hS.toInit hma0).mono ?_; rintro e w' ⟨J1, L1, v1, rfl, hv1, hn, hma1⟩; replace hS := hS.trans hn; clear hn); refine Stop.of ?_))
            refine Stop.to ?_
            go_wp2_with (first | ((go_at_call 167; refine (h2 hS.toInit hma1).mono ?_; rintro e w' ⟨J2, L2, v2, rfl, hv2, hn, hma2⟩; have hle2 := hn.le hS.hI; replace hS := hS.trans hn; clear hn); refine Stop.of ?_))
            refine Stop.to ?_
            go_wp2_with (first | ((go_at_call 166; refine (h3 hS.toInit hma2).mono ?_; rintro e w' ⟨J3, L3, v3, rfl, hv3, hn, hma3⟩; have hle3 := hn.le hS.hI; replace hS := hS.trans hn; clear hn; unfold natR at hv3; subst hv3); refine Stop.of ?_))
            refine Stop.to ?_
            go_wp2_with (first | (go_at_call 167; refine (h4 hS.toInit hma3).mono ?_; rintro e w' ⟨rfl, J4, L4, hn⟩; replace hS := hS.trans hn; clear hn))
            exact ⟨rfl, rfl, J4, _, hS⟩
          | ok r4 =>
            obtain ⟨sigs, m5⟩ := r4
            rw [hr4] at h4 hR
            simp only [bindM] at hR
            obtain ⟨hm5, hb4⟩ := severalM_ok hm4 hr4
            clear hr4
            have h5 := fun {I : Imm} {w : World} {L : List Item} (hin : Init I L w) (h : MachAt I mb sp dig m5 L) => pop_spec (dig := dig)  hin h hm5 
            unfold RPost at h5
            cases hr5 : popM m5 with
            | error e0 =>
              rw [hr5] at h5 hR
              simp only [bindM] at hR
              rw [hR]
              clear hR
              go_enter Tryz.func139, Tryz.ntmps139
              go_wp2_with (first | ((go_at_call 166; refine (h0 hin h).mono ?_; rintro e w' ⟨J0, L0, v0, rfl, hv0, hn, hma0⟩; replace hS := hS.trans hn; clear hn; unfold natR at hv0; subst hv0); refine Stop.of ?_))
              refine Stop.to ?_
              go_wp2_with (first | ((go_at_call 105; refine (h1 hS.toInit hma0).mono ?_; rintro e w' ⟨J1, L1, v1, rfl, hv1, hn, hma1⟩; replace hS := hS.trans hn; clear hn); refine Stop.of ?_))
              refine Stop.to ?_
              go_wp2_with (first | ((go_at_call 167; refine (h2 hS.toInit hma1).mono ?_; rintro e w' ⟨J2, L2, v2, rfl, hv2, hn, hma2⟩; have hle2 := hn.le hS.hI; replace hS := hS.trans hn; clear hn); refine Stop.of ?_))
              refine Stop.to ?_
              go_wp2_with (first | ((go_at_call 166; refine (h3 hS.toInit hma2).mono ?_; rintro e w' ⟨J3, L3, v3, rfl, hv3, hn, hma3⟩; have hle3 := hn.le hS.hI; replace hS := hS.trans hn; clear hn; unfold natR at hv3; subst hv3); refine Stop.of ?_))
              refine Stop.to ?_
              go_wp2_with (first | ((go_at_call 167; refine (h4 hS.toInit hma3).mono ?_; rintro e w' ⟨J4, L4, v4, rfl, hv4, hn, hma4⟩; have hle4 := hn.le hS.hI; replace hS := hS.trans hn; clear hn); refine Stop.of ?_))
              refine Stop.to ?_
              go_wp2_with (first | (go_at_call 106; refine (h5 hS.toInit hma4).mono ?_; rintro e w' ⟨rfl, J5, L5, hn⟩; replace hS := hS.trans hn; clear hn))
              exact ⟨rfl, rfl, J5, _, hS⟩
            | ok r5 =>
              obtain ⟨b, m6⟩ := r5
              rw [hr5] at h5 hR
              simp only [bindM] at hR
              obtain ⟨hm6, hb5⟩ := PM.Ok.pop hm5 hr5
              clear hr5
              by_cases hb0 : b.length > 0
              · rw [if_pos hb0] at hR
                rw [hR]
                have hbi : (0 : Int) < b.length := by omega
                clear hR
                go_enter Tryz.func139, Tryz.ntmps139
                go_wp2_with (first | ((go_at_call 166; refine (h0 hin h).mono ?_; rintro e w' ⟨J0, L0, v0, rfl, hv0, hn, hma0⟩; replace hS := hS.trans hn; clear hn; unfold natR at hv0; subst hv0); refine Stop.of ?_))
                refine Stop.to ?_
                go_wp2_with (first | ((go_at_call 105; refine (h1 hS.toInit hma0).mono ?_; rintro e w' ⟨J1, L1, v1, rfl, hv1, hn, hma1⟩; replace hS := hS.trans hn; clear hn); refine Stop.of ?_))
                refine Stop.to ?_
                go_wp2_with (first | ((go_at_call 167; refine (h2 hS.toInit hma1).mono ?_; rintro e w' ⟨J2, L2, v2, rfl, hv2, hn, hma2⟩; have hle2 := hn.le hS.hI; replace hS := hS.trans hn; clear hn); refine Stop.of ?_))
                refine Stop.to ?_
                go_wp2_with (first | ((go_at_call 166; refine (h3 hS.toInit hma2).mono ?_; rintro e w' ⟨J3, L3, v3, rfl, hv3, hn, hma3⟩; have hle3 := hn.le hS.hI; replace hS := hS.trans hn; clear hn; unfold natR at hv3; subst hv3); refine Stop.of ?_))
                refine Stop.to ?_
                go_wp2_with (first | ((go_at_call 167; refine (h4 hS.toInit hma3).mono ?_; rintro e w' ⟨J4, L4, v4, rfl, hv4, hn, hma4⟩; have hle4 := hn.le hS.hI; replace hS := hS.trans hn; clear hn); refine Stop.of ?_))
                refine Stop.to ?_
                go_wp2_with (first | ((go_at_call 106; refine (h5 hS.toInit hma4).mono ?_; rintro e w' ⟨J5, L5, v5, rfl, hv5, hn, hma5⟩; have hle5 := hn.le hS.hI; replace hS := hS.trans hn; clear hn; obtain ⟨pa, pc, rfl, -, -, -⟩ := (show RdB J5 v5 b from hv5).ex; obtain ⟨ba, bc, L7, rfl, hst7⟩ := hma5); refine Stop.of ?_))
                refine Stop.to ?_
                go_wp2_with (first | (go_at_call 94; refine (fail_spec (by decide)).mono ?_; rintro e w' ⟨rfl, rfl⟩))
                exact ⟨rfl, rfl, J5, _, hS⟩
              · rw [if_neg hb0] at hR
                have hbi : ¬ (0 : Int) < b.length := by omega
                obtain ⟨x, hx⟩ : ∃ x, x = matchB shaH dig keys sigs := ⟨_, rfl⟩
                rw [← hx] at hR
                have Hx := Lib.hid hx
                have hfl : (flagB x).length ≤ 100000 := by cases x <;> decide +kernel
                have h6 := fun {I : Imm} {w : World} {L : List Item} (hin : Init I L w) (h : MachAt I mb sp dig m6 L) {v : Value} (hv : RdB I v (flagB x)) => mpush_spec (dig := dig) hin h hm6 hv hfl
                unfold RPost at h6
                rw [← hR] at h6
                clear hx hR
                have hf1 : ∀ (ba : Option Addr) (bn bc many : Nat), ((Value.pointer (some ⟨sp, 0, none⟩) :: (bvs dig ++ [.slice ba bn bc, .int .i64 many])).drop 1).take 32 = bvs dig := fun ba bn bc many => by
                  rw [List.drop_succ_cons, List.drop_zero, List.take_append_of_le_length (by simp [hd]), List.take_of_length_le (by simp [hd])]
                have hl1 : (bvs dig).length = 32 := by simp [hd]
                cases R with
                | error e1 =>
                  go_enter Tryz.func139, Tryz.ntmps139
                  go_wp2_with (first | ((go_at_call 166; refine (h0 hin h).mono ?_; rintro e w' ⟨J0, L0, v0, rfl, hv0, hn, hma0⟩; replace hS := hS.trans hn; clear hn; unfold natR at hv0; subst hv0); refine Stop.of ?_))
                  refine Stop.to ?_
                  go_wp2_with (first | ((go_at_call 105; refine (h1 hS.toInit hma0).mono ?_; rintro e w' ⟨J1, L1, v1, rfl, hv1, hn, hma1⟩; replace hS := hS.trans hn; clear hn); refine Stop.of ?_))
                  refine Stop.to ?_
                  go_wp2_with (first | ((go_at_call 167; refine (h2 hS.toInit hma1).mono ?_; rintro e w' ⟨J2, L2, v2, rfl, hv2, hn, hma2⟩; have hle2 := hn.le hS.hI; replace hS := hS.trans hn; clear hn); refine Stop.of ?_))
                  refine Stop.to ?_
                  go_wp2_with (first | ((go_at_call 166; refine (h3 hS.toInit hma2).mono ?_; rintro e w' ⟨J3, L3, v3, rfl, hv3, hn, hma3⟩; have hle3 := hn.le hS.hI; replace hS := hS.trans hn; clear hn; unfold natR at hv3; subst hv3); refine Stop.of ?_))
                  refine Stop.to ?_
                  go_wp2_with (first | ((go_at_call 167; refine (h4 hS.toInit hma3).mono ?_; rintro e w' ⟨J4, L4, v4, rfl, hv4, hn, hma4⟩; have hle4 := hn.le hS.hI; replace hS := hS.trans hn; clear hn); refine Stop.of ?_))
                  refine Stop.to ?_
                  go_wp2_with (first | ((go_at_call 106; refine (h5 hS.toInit hma4).mono ?_; rintro e w' ⟨J5, L5, v5, rfl, hv5, hn, hma5⟩; have hle5 := hn.le hS.hI; replace hS := hS.trans hn; clear hn; obtain ⟨pa, pc, rfl, -, -, -⟩ := (show RdB J5 v5 b from hv5).ex; obtain ⟨ba, bc, L7, rfl, hst7⟩ := hma5); refine Stop.of ?_))
                  refine Stop.to ?_
                  go_wp2_with (first | ((with_reducible refine gL_load ?_); refine sL_loadA hS rfl _ _ rfl _ _ rfl 0 _ _ rfl (bvs dig) (hf1 _ _ _ _) hl1 ?_) | ((go_at_call 31; refine (Match_spec Of_spec hS.hI (RepsRd.mono (hle3.trans (hle4.trans hle5)) hv2) (RepsRd.mono hle5 hv4) hd (by omega) (by omega)).mono ?_; rintro e w' ⟨J6, rfl, hn⟩; rw [← Hx.out]; have hle6 := hn.le hS.hI; replace hS := hS.pure0 hn; clear hn); refine Stop.of ?_))
                  refine Stop.to ?_
                  go_wp2_with (first | ((go_at_call 136; refine (Flag_spec hS.hI).mono ?_; rintro e w' ⟨fa, fc, rfl, hn⟩; obtain ⟨K7, hS7, hle7, hrd7⟩ := hS.pureFreeze hn; clear hS hn; have hS := hS7; clear hS7); refine Stop.of ?_))
                  refine Stop.to ?_
                  have hma7 : MachAt K7 mb sp dig m6 _ := ⟨ba, bc, L7, rfl, hst7.mono (hle6.trans hle7)⟩
                  go_wp2_with (first | (go_at_call 109; refine (h6 hS.toInit hma7 hrd7).mono ?_; rintro e w' ⟨rfl, J8, L8, hn⟩; replace hS := hS.trans hn; clear hn))
                  exact ⟨rfl, rfl, J8, _, hS⟩
                | ok um =>
                  go_enter Tryz.func139, Tryz.ntmps139
                  go_wp2_with (first | ((go_at_call 166; refine (h0 hin h).mono ?_; rintro e w' ⟨J0, L0, v0, rfl, hv0, hn, hma0⟩; replace hS := hS.trans hn; clear hn; unfold natR at hv0; subst hv0); refine Stop.of ?_))
                  refine Stop.to ?_
                  go_wp2_with (first | ((go_at_call 105; refine (h1 hS.toInit hma0).mono ?_; rintro e w' ⟨J1, L1, v1, rfl, hv1, hn, hma1⟩; replace hS := hS.trans hn; clear hn); refine Stop.of ?_))
                  refine Stop.to ?_
                  go_wp2_with (first | ((go_at_call 167; refine (h2 hS.toInit hma1).mono ?_; rintro e w' ⟨J2, L2, v2, rfl, hv2, hn, hma2⟩; have hle2 := hn.le hS.hI; replace hS := hS.trans hn; clear hn); refine Stop.of ?_))
                  refine Stop.to ?_
                  go_wp2_with (first | ((go_at_call 166; refine (h3 hS.toInit hma2).mono ?_; rintro e w' ⟨J3, L3, v3, rfl, hv3, hn, hma3⟩; have hle3 := hn.le hS.hI; replace hS := hS.trans hn; clear hn; unfold natR at hv3; subst hv3); refine Stop.of ?_))
                  refine Stop.to ?_
                  go_wp2_with (first | ((go_at_call 167; refine (h4 hS.toInit hma3).mono ?_; rintro e w' ⟨J4, L4, v4, rfl, hv4, hn, hma4⟩; have hle4 := hn.le hS.hI; replace hS := hS.trans hn; clear hn); refine Stop.of ?_))
                  refine Stop.to ?_
                  go_wp2_with (first | ((go_at_call 106; refine (h5 hS.toInit hma4).mono ?_; rintro e w' ⟨J5, L5, v5, rfl, hv5, hn, hma5⟩; have hle5 := hn.le hS.hI; replace hS := hS.trans hn; clear hn; obtain ⟨pa, pc, rfl, -, -, -⟩ := (show RdB J5 v5 b from hv5).ex; obtain ⟨ba, bc, L7, rfl, hst7⟩ := hma5); refine Stop.of ?_))
                  refine Stop.to ?_
                  go_wp2_with (first | ((with_reducible refine gL_load ?_); refine sL_loadA hS rfl _ _ rfl _ _ rfl 0 _ _ rfl (bvs dig) (hf1 _ _ _ _) hl1 ?_) | ((go_at_call 31; refine (Match_spec Of_spec hS.hI (RepsRd.mono (hle3.trans (hle4.trans hle5)) hv2) (RepsRd.mono hle5 hv4) hd (by omega) (by omega)).mono ?_; rintro e w' ⟨J6, rfl, hn⟩; rw [← Hx.out]; have hle6 := hn.le hS.hI; replace hS := hS.pure0 hn; clear hn); refine Stop.of ?_))
                  refine Stop.to ?_
                  go_wp2_with (first | ((go_at_call 136; refine (Flag_spec hS.hI).mono ?_; rintro e w' ⟨fa, fc, rfl, hn⟩; obtain ⟨K7, hS7, hle7, hrd7⟩ := hS.pureFreeze hn; clear hS hn; have hS := hS7; clear hS7); refine Stop.of ?_))
                  refine Stop.to ?_
                  have hma7 : MachAt K7 mb sp dig m6 _ := ⟨ba, bc, L7, rfl, hst7.mono (hle6.trans hle7)⟩
                  go_wp2_with (first | (go_at_call 109; refine (h6 hS.toInit hma7 hrd7).mono ?_; rintro e w' ⟨J8, L8, v8, rfl, _, hn, hma8⟩; replace hS := hS.trans hn; clear hn))
                  exact bodyPost_end (results_none rfl _ _ _) rfl ⟨J8, L8, _, rfl, trivial, hS, hma8⟩
end Go.Proofs.YtmlgieclkedomaaGreat

namespace Go.Proofs.YtmlgieclkedomaaGreat
open Go Go.RowKit

set_option maxRecDepth 10000 in
set_option maxHeartbeats 1000000 in
theorem counted_spec {I : Imm} {w : World} {mb sp : Nat} {dig : Bs} {m : PM} {L : List Item} (hin : Init I L w) (h : MachAt I mb sp dig m L) (hd : dig.length = 32) (hm : m.Ok) {o : OpS} {vs : List Value} (ho : OpAt I o vs) (hol : o.data.length ≤ 1000000) :
    Calls Tryz.prog 90 #[.pointer (some ⟨mb, 0, none⟩), .agg vs.toArray] w (RPost anyR L I w mb sp dig (countedM o m)) := by
  have hS := hin.nx
  obtain ⟨oa, oc, rfl, hrdo⟩ := ho
  have hval := fun {J : Imm} {w : World} (hle : I.Le J) (hJ : J.Holds w) => Value_spec (o := o) (vs := [bv o.code, .slice oa o.data.length oc]) hJ ⟨oa, oc, rfl, hrdo.mono hle⟩ hol
  unfold ValuePost at hval
  have hcount := fun {J : Imm} {w : World} {L : List Item} (hin : Init J L w) (h : MachAt J mb sp dig m L) => count_spec (n := 1) hin h hd hm (by decide)
  unfold RPost at hcount
  by_cases hlong : o.data.length > 520
  · have hi : (520 : Int) < o.data.length := by omega
    have e : countedM o m = .error 134 := by unfold countedM; rw [if_pos hlong]
    rw [e]
    cases hv : valueB o with
    | none =>
      rw [hv] at hval
      go_enter Tryz.func90, Tryz.ntmps90
      go_wp2_with (first | ((with_reducible refine gL_box ?_); (refine sL_box hS rfl _ _ rfl _ (by go_simp; first | exact rfl | exact ⟨rfl, rfl⟩) ?_; clear hS; intro b3 w' hb3 hS)) | (first | ((with_reducible refine gL_load ?_); first | (refine sL_load hS rfl _ _ rfl _ _ rfl 0 _ _ rfl _ rfl ?_) | (refine sL_load hS rfl _ _ rfl _ _ rfl 1 _ _ rfl _ rfl ?_) | (refine sL_load hS rfl _ _ rfl _ _ rfl 2 _ _ rfl _ rfl ?_) | (refine sL_load hS rfl _ _ rfl _ _ rfl 3 _ _ rfl _ rfl ?_) | (refine sL_load hS rfl _ _ rfl _ _ rfl 4 _ _ rfl _ rfl ?_) | (refine sL_load hS rfl _ _ rfl _ _ rfl 5 _ _ rfl _ rfl ?_) | (refine sL_loadA hS rfl _ _ rfl _ _ rfl 0 _ _ rfl _ rfl rfl ?_) | (refine sL_loadA hS rfl _ _ rfl _ _ rfl 1 _ _ rfl _ rfl rfl ?_) | (refine sL_loadA hS rfl _ _ rfl _ _ rfl 2 _ _ rfl _ rfl rfl ?_) | (refine sL_loadA hS rfl _ _ rfl _ _ rfl 3 _ _ rfl _ rfl rfl ?_) | (refine sL_loadA hS rfl _ _ rfl _ _ rfl 4 _ _ rfl _ rfl rfl ?_) | (refine sL_loadA hS rfl _ _ rfl _ _ rfl 5 _ _ rfl _ rfl rfl ?_)) | ((with_reducible refine gL_store ?_); first | (refine sL_store hS rfl _ _ _ rfl _ _ rfl 0 _ _ rfl _ (by go_simp; first | exact rfl | exact ⟨rfl, rfl⟩) rfl (by simp) ?_; clear hS; intro w' hS; simp only [List.set_cons_zero] at hS) | (refine sL_store hS rfl _ _ _ rfl _ _ rfl 1 _ _ rfl _ (by go_simp; first | exact rfl | exact ⟨rfl, rfl⟩) rfl (by simp) ?_; clear hS; intro w' hS; simp only [List.set_cons_zero, List.set_cons_succ] at hS) | (refine sL_store hS rfl _ _ _ rfl _ _ rfl 2 _ _ rfl _ (by go_simp; first | exact rfl | exact ⟨rfl, rfl⟩) rfl (by simp) ?_; clear hS; intro w' hS; simp only [List.set_cons_zero, List.set_cons_succ] at hS) | (refine sL_store hS rfl _ _ _ rfl _ _ rfl 3 _ _ rfl _ (by go_simp; first | exact rfl | exact ⟨rfl, rfl⟩) rfl (by simp) ?_; clear hS; intro w' hS; simp only [List.set_cons_zero, List.set_cons_succ] at hS) | (refine sL_store hS rfl _ _ _ rfl _ _ rfl 4 _ _ rfl _ (by go_simp; first | exact rfl | exact ⟨rfl, rfl⟩) rfl (by simp) ?_; clear hS; intro w' hS; simp only [List.set_cons_zero, List.set_cons_succ] at hS) | (refine sL_store hS rfl _ _ _ rfl _ _ rfl 5 _ _ rfl _ (by go_simp; first | exact rfl | exact ⟨rfl, rfl⟩) rfl (by simp) ?_; clear hS; intro w' hS; simp only [List.set_cons_zero, List.set_cons_succ] at hS) | (refine sL_storeB hS rfl _ _ _ rfl _ rfl 0 _ _ rfl _ (by go_simp; first | exact rfl | exact ⟨rfl, rfl⟩) (by rfl) (by rfl) (by simp [Value.oneCell']) ?_; clear hS; intro w' hS; simp only [List.set_cons_zero] at hS) | (refine sL_storeB hS rfl _ _ _ rfl _ rfl 1 _ _ rfl _ (by go_simp; first | exact rfl | exact ⟨rfl, rfl⟩) (by rfl) (by rfl) (by simp [Value.oneCell']) ?_; clear hS; intro w' hS; simp only [List.set_cons_zero, List.set_cons_succ] at hS) | (refine sL_storeB hS rfl _ _ _ rfl _ rfl 2 _ _ rfl _ (by go_simp; first | exact rfl | exact ⟨rfl, rfl⟩) (by rfl) (by rfl) (by simp [Value.oneCell']) ?_; clear hS; intro w' hS; simp only [List.set_cons_zero, List.set_cons_succ] at hS) | (refine sL_storeB hS rfl _ _ _ rfl _ rfl 3 _ _ rfl _ (by go_simp; first | exact rfl | exact ⟨rfl, rfl⟩) (by rfl) (by rfl) (by simp [Value.oneCell']) ?_; clear hS; intro w' hS; simp only [List.set_cons_zero, List.set_cons_succ] at hS) | (refine sL_storeB hS rfl _ _ _ rfl _ rfl 4 _ _ rfl _ (by go_simp; first | exact rfl | exact ⟨rfl, rfl⟩) (by rfl) (by rfl) (by simp [Value.oneCell']) ?_; clear hS; intro w' hS; simp only [List.set_cons_zero, List.set_cons_succ] at hS) | (refine sL_storeB hS rfl _ _ _ rfl _ rfl 5 _ _ rfl _ (by go_simp; first | exact rfl | exact ⟨rfl, rfl⟩) (by rfl) (by rfl) (by simp [Value.oneCell']) ?_; clear hS; intro w' hS; simp only [List.set_cons_zero, List.set_cons_succ] at hS)) | ((with_reducible refine gL_alloc ?_); (refine sL_alloc hS rfl _ rfl ?_; clear hS; intro b w' hb hS)) | ((with_reducible refine gL_box ?_); (refine sL_box hS rfl _ _ rfl _ (by go_simp; first | exact rfl | exact ⟨rfl, rfl⟩) ?_; clear hS; intro b w' hb hS))) | (go_at_call 75; refine (hval (Imm.Le.refl _) hS.hI).mono ?_; rintro e w' ⟨rfl, J, hn⟩; replace hS := hS.pure0 hn; clear hn) | (go_at_call 94; refine (fail_spec (by decide)).mono ?_; rintro e w' ⟨rfl, rfl⟩))
      exact ⟨rfl, rfl, J, _, hS⟩
    | some b =>
      rw [hv] at hval
      go_enter Tryz.func90, Tryz.ntmps90
      go_wp2_with (first | ((with_reducible refine gL_box ?_); (refine sL_box hS rfl _ _ rfl _ (by go_simp; first | exact rfl | exact ⟨rfl, rfl⟩) ?_; clear hS; intro b3 w' hb3 hS)) | (first | ((with_reducible refine gL_load ?_); first | (refine sL_load hS rfl _ _ rfl _ _ rfl 0 _ _ rfl _ rfl ?_) | (refine sL_load hS rfl _ _ rfl _ _ rfl 1 _ _ rfl _ rfl ?_) | (refine sL_load hS rfl _ _ rfl _ _ rfl 2 _ _ rfl _ rfl ?_) | (refine sL_load hS rfl _ _ rfl _ _ rfl 3 _ _ rfl _ rfl ?_) | (refine sL_load hS rfl _ _ rfl _ _ rfl 4 _ _ rfl _ rfl ?_) | (refine sL_load hS rfl _ _ rfl _ _ rfl 5 _ _ rfl _ rfl ?_) | (refine sL_loadA hS rfl _ _ rfl _ _ rfl 0 _ _ rfl _ rfl rfl ?_) | (refine sL_loadA hS rfl _ _ rfl _ _ rfl 1 _ _ rfl _ rfl rfl ?_) | (refine sL_loadA hS rfl _ _ rfl _ _ rfl 2 _ _ rfl _ rfl rfl ?_) | (refine sL_loadA hS rfl _ _ rfl _ _ rfl 3 _ _ rfl _ rfl rfl ?_) | (refine sL_loadA hS rfl _ _ rfl _ _ rfl 4 _ _ rfl _ rfl rfl ?_) | (refine sL_loadA hS rfl _ _ rfl _ _ rfl 5 _ _ rfl _ rfl rfl ?_)) | ((with_reducible refine gL_store ?_); first | (refine sL_store hS rfl _ _ _ rfl _ _ rfl 0 _ _ rfl _ (by go_simp; first | exact rfl | exact ⟨rfl, rfl⟩) rfl (by simp) ?_; clear hS; intro w' hS; simp only [List.set_cons_zero] at hS) | (refine sL_store hS rfl _ _ _ rfl _ _ rfl 1 _ _ rfl _ (by go_simp; first | exact rfl | exact ⟨rfl, rfl⟩) rfl (by simp) ?_; clear hS; intro w' hS; simp only [List.set_cons_zero, List.set_cons_succ] at hS) | (refine sL_store hS rfl _ _ _ rfl _ _ rfl 2 _ _ rfl _ (by go_simp; first | exact rfl | exact ⟨rfl, rfl⟩) rfl (by simp) ?_; clear hS; intro w' hS; simp only [List.set_cons_zero, List.set_cons_succ] at hS) | (refine sL_store hS rfl _ _ _ rfl _ _ rfl 3 _ _ rfl _ (by go_simp; first | exact rfl | exact ⟨rfl, rfl⟩) rfl (by simp) ?_; clear hS; intro w' hS; simp only [List.set_cons_zero, List.set_cons_succ] at hS) | (refine sL_store hS rfl _ _ _ rfl _ _ rfl 4 _ _ rfl _ (by go_simp; first | exact rfl | exact ⟨rfl, rfl⟩) rfl (by simp) ?_; clear hS; intro w' hS; simp only [List.set_cons_zero, List.set_cons_succ] at hS) | (refine sL_store hS rfl _ _ _ rfl _ _ rfl 5 _ _ rfl _ (by go_simp; first | exact rfl | exact ⟨rfl, rfl⟩) rfl (by simp) ?_; clear hS; intro w' hS; simp only [List.set_cons_zero, List.set_cons_succ] at hS) | (refine sL_storeB hS rfl _ _ _ rfl _ rfl 0 _ _ rfl _ (by go_simp; first | exact rfl | exact ⟨rfl, rfl⟩) (by rfl) (by rfl) (by simp [Value.oneCell']) ?_; clear hS; intro w' hS; simp only [List.set_cons_zero] at hS) | (refine sL_storeB hS rfl _ _ _ rfl _ rfl 1 _ _ rfl _ (by go_simp; first | exact rfl | exact ⟨rfl, rfl⟩) (by rfl) (by rfl) (by simp [Value.oneCell']) ?_; clear hS; intro w' hS; simp only [List.set_cons_zero, List.set_cons_succ] at hS) | (refine sL_storeB hS rfl _ _ _ rfl _ rfl 2 _ _ rfl _ (by go_simp; first | exact rfl | exact ⟨rfl, rfl⟩) (by rfl) (by rfl) (by simp [Value.oneCell']) ?_; clear hS; intro w' hS; simp only [List.set_cons_zero, List.set_cons_succ] at hS) | (refine sL_storeB hS rfl _ _ _ rfl _ rfl 3 _ _ rfl _ (by go_simp; first | exact rfl | exact ⟨rfl, rfl⟩) (by rfl) (by rfl) (by simp [Value.oneCell']) ?_; clear hS; intro w' hS; simp only [List.set_cons_zero, List.set_cons_succ] at hS) | (refine sL_storeB hS rfl _ _ _ rfl _ rfl 4 _ _ rfl _ (by go_simp; first | exact rfl | exact ⟨rfl, rfl⟩) (by rfl) (by rfl) (by simp [Value.oneCell']) ?_; clear hS; intro w' hS; simp only [List.set_cons_zero, List.set_cons_succ] at hS) | (refine sL_storeB hS rfl _ _ _ rfl _ rfl 5 _ _ rfl _ (by go_simp; first | exact rfl | exact ⟨rfl, rfl⟩) (by rfl) (by rfl) (by simp [Value.oneCell']) ?_; clear hS; intro w' hS; simp only [List.set_cons_zero, List.set_cons_succ] at hS)) | ((with_reducible refine gL_alloc ?_); (refine sL_alloc hS rfl _ rfl ?_; clear hS; intro b w' hb hS)) | ((with_reducible refine gL_box ?_); (refine sL_box hS rfl _ _ rfl _ (by go_simp; first | exact rfl | exact ⟨rfl, rfl⟩) ?_; clear hS; intro b w' hb hS))) | (go_at_call 75; refine (hval (Imm.Le.refl _) hS.hI).mono ?_; rintro e w' ⟨J, ra, rc, rfl, hrd, hn⟩; replace hS := hS.pure0 hn; clear hn) | (go_at_call 94; refine (fail_spec (by decide)).mono ?_; rintro e w' ⟨rfl, rfl⟩))
      exact ⟨rfl, rfl, J, _, hS⟩
  · have hi : ¬ (520 : Int) < o.data.length := by omega
    cases hv : valueB o with
    | some b =>
      have e : countedM o m = .ok ((), m) := by unfold countedM; rw [if_neg hlong, hv]; rfl
      rw [e]
      rw [hv] at hval
      go_enter Tryz.func90, Tryz.ntmps90
      go_wp2_with (first | ((with_reducible refine gL_box ?_); (refine sL_box hS rfl _ _ rfl _ (by go_simp; first | exact rfl | exact ⟨rfl, rfl⟩) ?_; clear hS; intro b3 w' hb3 hS)) | (first | ((with_reducible refine gL_load ?_); first | (refine sL_load hS rfl _ _ rfl _ _ rfl 0 _ _ rfl _ rfl ?_) | (refine sL_load hS rfl _ _ rfl _ _ rfl 1 _ _ rfl _ rfl ?_) | (refine sL_load hS rfl _ _ rfl _ _ rfl 2 _ _ rfl _ rfl ?_) | (refine sL_load hS rfl _ _ rfl _ _ rfl 3 _ _ rfl _ rfl ?_) | (refine sL_load hS rfl _ _ rfl _ _ rfl 4 _ _ rfl _ rfl ?_) | (refine sL_load hS rfl _ _ rfl _ _ rfl 5 _ _ rfl _ rfl ?_) | (refine sL_loadA hS rfl _ _ rfl _ _ rfl 0 _ _ rfl _ rfl rfl ?_) | (refine sL_loadA hS rfl _ _ rfl _ _ rfl 1 _ _ rfl _ rfl rfl ?_) | (refine sL_loadA hS rfl _ _ rfl _ _ rfl 2 _ _ rfl _ rfl rfl ?_) | (refine sL_loadA hS rfl _ _ rfl _ _ rfl 3 _ _ rfl _ rfl rfl ?_) | (refine sL_loadA hS rfl _ _ rfl _ _ rfl 4 _ _ rfl _ rfl rfl ?_) | (refine sL_loadA hS rfl _ _ rfl _ _ rfl 5 _ _ rfl _ rfl rfl ?_)) | ((with_reducible refine gL_store ?_); first | (refine sL_store hS rfl _ _ _ rfl _ _ rfl 0 _ _ rfl _ (by go_simp; first | exact rfl | exact ⟨rfl, rfl⟩) rfl (by simp) ?_; clear hS; intro w' hS; simp only [List.set_cons_zero] at hS) | (refine sL_store hS rfl _ _ _ rfl _ _ rfl 1 _ _ rfl _ (by go_simp; first | exact rfl | exact ⟨rfl, rfl⟩) rfl (by simp) ?_; clear hS; intro w' hS; simp only [List.set_cons_zero, List.set_cons_succ] at hS) | (refine sL_store hS rfl _ _ _ rfl _ _ rfl 2 _ _ rfl _ (by go_simp; first | exact rfl | exact ⟨rfl, rfl⟩) rfl (by simp) ?_; clear hS; intro w' hS; simp only [List.set_cons_zero, List.set_cons_succ] at hS) | (refine sL_store hS rfl _ _ _ rfl _ _ rfl 3 _ _ rfl _ (by go_simp; first | exact rfl | exact ⟨rfl, rfl⟩) rfl (by simp) ?_; clear hS; intro w' hS; simp only [List.set_cons_zero, List.set_cons_succ] at hS) | (refine sL_store hS rfl _ _ _ rfl _ _ rfl 4 _ _ rfl _ (by go_simp; first | exact rfl | exact ⟨rfl, rfl⟩) rfl (by simp) ?_; clear hS; intro w' hS; simp only [List.set_cons_zero, List.set_cons_succ] at hS) | (refine sL_store hS rfl _ _ _ rfl _ _ rfl 5 _ _ rfl _ (by go_simp; first | exact rfl | exact ⟨rfl, rfl⟩) rfl (by simp) ?_; clear hS; intro w' hS; simp only [List.set_cons_zero, List.set_cons_succ] at hS) | (refine sL_storeB hS rfl _ _ _ rfl _ rfl 0 _ _ rfl _ (by go_simp; first | exact rfl | exact ⟨rfl, rfl⟩) (by rfl) (by rfl) (by simp [Value.oneCell']) ?_; clear hS; intro w' hS; simp only [List.set_cons_zero] at hS) | (refine sL_storeB hS rfl _ _ _ rfl _ rfl 1 _ _ rfl _ (by go_simp; first | exact rfl | exact ⟨rfl, rfl⟩) (by rfl) (by rfl) (by simp [Value.oneCell']) ?_; clear hS; intro w' hS; simp only [List.set_cons_zero, List.set_cons_succ] at hS) | (refine sL_storeB hS rfl _ _ _ rfl _ rfl 2 _ _ rfl _ (by go_simp; first | exact rfl | exact ⟨rfl, rfl⟩) (by rfl) (by rfl) (by simp [Value.oneCell']) ?_; clear hS; intro w' hS; simp only [List.set_cons_zero, List.set_cons_succ] at hS) | (refine sL_storeB hS rfl _ _ _ rfl _ rfl 3 _ _ rfl _ (by go_simp; first | exact rfl | exact ⟨rfl, rfl⟩) (by rfl) (by rfl) (by simp [Value.oneCell']) ?_; clear hS; intro w' hS; simp only [List.set_cons_zero, List.set_cons_succ] at hS) | (refine sL_storeB hS rfl _ _ _ rfl _ rfl 4 _ _ rfl _ (by go_simp; first | exact rfl | exact ⟨rfl, rfl⟩) (by rfl) (by rfl) (by simp [Value.oneCell']) ?_; clear hS; intro w' hS; simp only [List.set_cons_zero, List.set_cons_succ] at hS) | (refine sL_storeB hS rfl _ _ _ rfl _ rfl 5 _ _ rfl _ (by go_simp; first | exact rfl | exact ⟨rfl, rfl⟩) (by rfl) (by rfl) (by simp [Value.oneCell']) ?_; clear hS; intro w' hS; simp only [List.set_cons_zero, List.set_cons_succ] at hS)) | ((with_reducible refine gL_alloc ?_); (refine sL_alloc hS rfl _ rfl ?_; clear hS; intro b w' hb hS)) | ((with_reducible refine gL_box ?_); (refine sL_box hS rfl _ _ rfl _ (by go_simp; first | exact rfl | exact ⟨rfl, rfl⟩) ?_; clear hS; intro b w' hb hS))) | (go_at_call 75; refine (hval (Imm.Le.refl _) hS.hI).mono ?_; rintro e w' ⟨J, ra, rc, rfl, hrd, hn⟩; have hle := hn.le hS.hI; replace hS := hS.pure0 hn; clear hn))
      exact bodyPost_end (results_none rfl _ _ _) rfl ⟨J, L, _, rfl, trivial, hS.drop, h.mono hle⟩
    | none =>
      have e : countedM o m = countM 1 m := by unfold countedM; rw [if_neg hlong, hv]; rfl
      rw [e]
      rw [hv] at hval
      cases hr : countM 1 m with
      | error c =>
        rw [hr] at hcount
        go_enter Tryz.func90, Tryz.ntmps90
        go_wp2_with (first | ((with_reducible refine gL_box ?_); (refine sL_box hS rfl _ _ rfl _ (by go_simp; first | exact rfl | exact ⟨rfl, rfl⟩) ?_; clear hS; intro b3 w' hb3 hS)) | (first | ((with_reducible refine gL_load ?_); first | (refine sL_load hS rfl _ _ rfl _ _ rfl 0 _ _ rfl _ rfl ?_) | (refine sL_load hS rfl _ _ rfl _ _ rfl 1 _ _ rfl _ rfl ?_) | (refine sL_load hS rfl _ _ rfl _ _ rfl 2 _ _ rfl _ rfl ?_) | (refine sL_load hS rfl _ _ rfl _ _ rfl 3 _ _ rfl _ rfl ?_) | (refine sL_load hS rfl _ _ rfl _ _ rfl 4 _ _ rfl _ rfl ?_) | (refine sL_load hS rfl _ _ rfl _ _ rfl 5 _ _ rfl _ rfl ?_) | (refine sL_loadA hS rfl _ _ rfl _ _ rfl 0 _ _ rfl _ rfl rfl ?_) | (refine sL_loadA hS rfl _ _ rfl _ _ rfl 1 _ _ rfl _ rfl rfl ?_) | (refine sL_loadA hS rfl _ _ rfl _ _ rfl 2 _ _ rfl _ rfl rfl ?_) | (refine sL_loadA hS rfl _ _ rfl _ _ rfl 3 _ _ rfl _ rfl rfl ?_) | (refine sL_loadA hS rfl _ _ rfl _ _ rfl 4 _ _ rfl _ rfl rfl ?_) | (refine sL_loadA hS rfl _ _ rfl _ _ rfl 5 _ _ rfl _ rfl rfl ?_)) | ((with_reducible refine gL_store ?_); first | (refine sL_store hS rfl _ _ _ rfl _ _ rfl 0 _ _ rfl _ (by go_simp; first | exact rfl | exact ⟨rfl, rfl⟩) rfl (by simp) ?_; clear hS; intro w' hS; simp only [List.set_cons_zero] at hS) | (refine sL_store hS rfl _ _ _ rfl _ _ rfl 1 _ _ rfl _ (by go_simp; first | exact rfl | exact ⟨rfl, rfl⟩) rfl (by simp) ?_; clear hS; intro w' hS; simp only [List.set_cons_zero, List.set_cons_succ] at hS) | (refine sL_store hS rfl _ _ _ rfl _ _ rfl 2 _ _ rfl _ (by go_simp; first | exact rfl | exact ⟨rfl, rfl⟩) rfl (by simp) ?_; clear hS; intro w' hS; simp only [List.set_cons_zero, List.set_cons_succ] at hS) | (refine sL_store hS rfl _ _ _ rfl _ _ rfl 3 _ _ rfl _ (by go_simp; first | exact rfl | exact ⟨rfl, rfl⟩) rfl (by simp) ?_; clear hS; intro w' hS; simp only [List.set_cons_zero, List.set_cons_succ] at hS) | (refine sL_store hS rfl _ _ _ rfl _ _ rfl 4 _ _ rfl _ (by go_simp; first | exact rfl | exact ⟨rfl, rfl⟩) rfl (by simp) ?_; clear hS; intro w' hS; simp only [List.set_cons_zero, List.set_cons_succ] at hS) | (refine sL_store hS rfl _ _ _ rfl _ _ rfl 5 _ _ rfl _ (by go_simp; first | exact rfl | exact ⟨rfl, rfl⟩) rfl (by simp) ?_; clear hS; intro w' hS; simp only [List.set_cons_zero, List.set_cons_succ] at hS) | (refine sL_storeB hS rfl _ _ _ rfl _ rfl 0 _ _ rfl _ (by go_simp; first | exact rfl | exact ⟨rfl, rfl⟩) (by rfl) (by rfl) (by simp [Value.oneCell']) ?_; clear hS; intro w' hS; simp only [List.set_cons_zero] at hS) | (refine sL_storeB hS rfl _ _ _ rfl _ rfl 1 _ _ rfl _ (by go_simp; first | exact rfl | exact ⟨rfl, rfl⟩) (by rfl) (by rfl) (by simp [Value.oneCell']) ?_; clear hS; intro w' hS; simp only [List.set_cons_zero, List.set_cons_succ] at hS) | (refine sL_storeB hS rfl _ _ _ rfl _ rfl 2 _ _ rfl _ (by go_simp; first | exact rfl | exact ⟨rfl, rfl⟩) (by rfl) (by rfl) (by simp [Value.oneCell']) ?_; clear hS; intro w' hS; simp only [List.set_cons_zero, List.set_cons_succ] at hS) | (refine sL_storeB hS rfl _ _ _ rfl _ rfl 3 _ _ rfl _ (by go_simp; first | exact rfl | exact ⟨rfl, rfl⟩) (by rfl) (by rfl) (by simp [Value.oneCell']) ?_; clear hS; intro w' hS; simp only [List.set_cons_zero, List.set_cons_succ] at hS) | (refine sL_storeB hS rfl _ _ _ rfl _ rfl 4 _ _ rfl _ (by go_simp; first | exact rfl | exact ⟨rfl, rfl⟩) (by rfl) (by rfl) (by simp [Value.oneCell']) ?_; clear hS; intro w' hS; simp only [List.set_cons_zero, List.set_cons_succ] at hS) | (refine sL_storeB hS rfl _ _ _ rfl _ rfl 5 _ _ rfl _ (by go_simp; first | exact rfl | exact ⟨rfl, rfl⟩) (by rfl) (by rfl) (by simp [Value.oneCell']) ?_; clear hS; intro w' hS; simp only [List.set_cons_zero, List.set_cons_succ] at hS)) | ((with_reducible refine gL_alloc ?_); (refine sL_alloc hS rfl _ rfl ?_; clear hS; intro b w' hb hS)) | ((with_reducible refine gL_box ?_); (refine sL_box hS rfl _ _ rfl _ (by go_simp; first | exact rfl | exact ⟨rfl, rfl⟩) ?_; clear hS; intro b w' hb hS))) | (go_at_call 75; refine (hval (Imm.Le.refl _) hS.hI).mono ?_; rintro e w' ⟨rfl, J, hn⟩; have hle := hn.le hS.hI; replace hS := hS.pure0 hn; clear hn) | (go_at_call 105; refine (hcount (Init.right (L := [_]) hS.toInit) (h.mono hle)).mono ?_; rintro e w' ⟨rfl, J2, L2, hn⟩; replace hS := Nx.callTail (L2 := [_]) hS hn; clear hn))
        exact ⟨rfl, rfl, J2, _, hS⟩
      | ok um =>
        rw [hr] at hcount
        go_enter Tryz.func90, Tryz.ntmps90
        go_wp2_with (first | ((with_reducible refine gL_box ?_); (refine sL_box hS rfl _ _ rfl _ (by go_simp; first | exact rfl | exact ⟨rfl, rfl⟩) ?_; clear hS; intro b3 w' hb3 hS)) | (first | ((with_reducible refine gL_load ?_); first | (refine sL_load hS rfl _ _ rfl _ _ rfl 0 _ _ rfl _ rfl ?_) | (refine sL_load hS rfl _ _ rfl _ _ rfl 1 _ _ rfl _ rfl ?_) | (refine sL_load hS rfl _ _ rfl _ _ rfl 2 _ _ rfl _ rfl ?_) | (refine sL_load hS rfl _ _ rfl _ _ rfl 3 _ _ rfl _ rfl ?_) | (refine sL_load hS rfl _ _ rfl _ _ rfl 4 _ _ rfl _ rfl ?_) | (refine sL_load hS rfl _ _ rfl _ _ rfl 5 _ _ rfl _ rfl ?_) | (refine sL_loadA hS rfl _ _ rfl _ _ rfl 0 _ _ rfl _ rfl rfl ?_) | (refine sL_loadA hS rfl _ _ rfl _ _ rfl 1 _ _ rfl _ rfl rfl ?_) | (refine sL_loadA hS rfl _ _ rfl _ _ rfl 2 _ _ rfl _ rfl rfl ?_) | (refine sL_loadA hS rfl _ _ rfl _ _ rfl 3 _ _ rfl _ rfl rfl ?_) | (refine sL_loadA hS rfl _ _ rfl _ _ rfl 4 _ _ rfl _ rfl rfl ?_) | (refine sL_loadA hS rfl _ _ rfl _ _ rfl 5 _ _ rfl _ rfl rfl ?_)) | ((with_reducible refine gL_store ?_); first | (refine sL_store hS rfl _ _ _ rfl _ _ rfl 0 _ _ rfl _ (by go_simp; first | exact rfl | exact ⟨rfl, rfl⟩) rfl (by simp) ?_; clear hS; intro w' hS; simp only [List.set_cons_zero] at hS) | (refine sL_store hS rfl _ _ _ rfl _ _ rfl 1 _ _ rfl _ (by go_simp; first | exact rfl | exact ⟨rfl, rfl⟩) rfl (by simp) ?_; clear hS; intro w' hS; simp only [List.set_cons_zero, List.set_cons_succ] at hS) | (refine sL_store hS rfl _ _ _ rfl _ _ rfl 2 _ _ rfl _ (by go_simp; first | exact rfl | exact ⟨rfl, rfl⟩) rfl (by simp) ?_; clear hS; intro w' hS; simp only [List.set_cons_zero, List.set_cons_succ] at hS) | (refine sL_store hS rfl _ _ _ rfl _ _ rfl 3 _ _ rfl _ (by go_simp; first | exact rfl | exact ⟨rfl, rfl⟩) rfl (by simp) ?_; clear hS; intro w' hS; simp only [List.set_cons_zero, List.set_cons_succ] at hS) | (refine sL_store hS rfl _ _ _ rfl _ _ rfl 4 _ _ rfl _ (by go_simp; first | exact rfl | exact ⟨rfl, rfl⟩) rfl (by simp) ?_; clear hS; intro w' hS; simp only [List.set_cons_zero, List.set_cons_succ] at hS) | (refine sL_store hS rfl _ _ _ rfl _ _ rfl 5 _ _ rfl _ (by go_simp; first | exact rfl | exact ⟨rfl, rfl⟩) rfl (by simp) ?_; clear hS; intro w' hS; simp only [List.set_cons_zero, List.set_cons_succ] at hS) | (refine sL_storeB hS rfl _ _ _ rfl _ rfl 0 _ _ rfl _ (by go_simp; first | exact rfl | exact ⟨rfl, rfl⟩) (by rfl) (by rfl) (by simp [Value.oneCell']) ?_; clear hS; intro w' hS; simp only [List.set_cons_zero] at hS) | (refine sL_storeB hS rfl _ _ _ rfl _ rfl 1 _ _ rfl _ (by go_simp; first | exact rfl | exact ⟨rfl, rfl⟩) (by rfl) (by rfl) (by simp [Value.oneCell']) ?_; clear hS; intro w' hS; simp only [List.set_cons_zero, List.set_cons_succ] at hS) | (refine sL_storeB hS rfl _ _ _ rfl _ rfl 2 _ _ rfl _ (by go_simp; first | exact rfl | exact ⟨rfl, rfl⟩) (by rfl) (by rfl) (by simp [Value.oneCell']) ?_; clear hS; intro w' hS; simp only [List.set_cons_zero, List.set_cons_succ] at hS) | (refine sL_storeB hS rfl _ _ _ rfl _ rfl 3 _ _ rfl _ (by go_simp; first | exact rfl | exact ⟨rfl, rfl⟩) (by rfl) (by rfl) (by simp [Value.oneCell']) ?_; clear hS; intro w' hS; simp only [List.set_cons_zero, List.set_cons_succ] at hS) | (refine sL_storeB hS rfl _ _ _ rfl _ rfl 4 _ _ rfl _ (by go_simp; first | exact rfl | exact ⟨rfl, rfl⟩) (by rfl) (by rfl) (by simp [Value.oneCell']) ?_; clear hS; intro w' hS; simp only [List.set_cons_zero, List.set_cons_succ] at hS) | (refine sL_storeB hS rfl _ _ _ rfl _ rfl 5 _ _ rfl _ (by go_simp; first | exact rfl | exact ⟨rfl, rfl⟩) (by rfl) (by rfl) (by simp [Value.oneCell']) ?_; clear hS; intro w' hS; simp only [List.set_cons_zero, List.set_cons_succ] at hS)) | ((with_reducible refine gL_alloc ?_); (refine sL_alloc hS rfl _ rfl ?_; clear hS; intro b w' hb hS)) | ((with_reducible refine gL_box ?_); (refine sL_box hS rfl _ _ rfl _ (by go_simp; first | exact rfl | exact ⟨rfl, rfl⟩) ?_; clear hS; intro b w' hb hS))) | (go_at_call 75; refine (hval (Imm.Le.refl _) hS.hI).mono ?_; rintro e w' ⟨rfl, J, hn⟩; have hle := hn.le hS.hI; replace hS := hS.pure0 hn; clear hn) | (go_at_call 105; refine (hcount (Init.right (L := [_]) hS.toInit) (h.mono hle)).mono ?_; rintro e w' ⟨J2, L2, v2, rfl, _, hn, hma⟩; replace hS := Nx.callTail (L2 := [_]) hS hn; clear hn))
        exact bodyPost_end (results_none rfl _ _ _) rfl ⟨J2, L2, _, rfl, trivial, hS.drop, hma⟩
end Go.Proofs.YtmlgieclkedomaaGreat

namespace Go.Proofs.YtmlgieclkedomaaGreat
open Go Go.RowKit
attribute [local irreducible] shaH

set_option maxRecDepth 10000 in
set_option maxHeartbeats 1000000 in
theorem other1_spec {I : Imm} {w : World} {mb sp : Nat} {dig : Bs} {m : PM} {L : List Item} (hin : Init I L w) (h : MachAt I mb sp dig m L) (hd : dig.length = 32) (hm : m.Ok) {c : UInt8} (hc : c = 97 ∨ c = 105 ∨ c = 106) :
    Calls Tryz.prog 114 #[.pointer (some ⟨mb, 0, none⟩), bv c] w (RPost anyR L I w mb sp dig (otherM shaH dig c m)) := by
  have hS := hin.nx
  rcases hc with rfl | rfl | rfl
  all_goals show Calls _ _ #[_, .int .u8 _] _ _
  · have e : otherM shaH dig 97 m = .ok ((), m) := rfl
    rw [e]
    go_enter Tryz.func114, Tryz.ntmps114
    go_wp2
    exact bodyPost_end (results_none rfl _ _ _) rfl ⟨I, L, _, rfl, trivial, hS, h⟩
  · have e : otherM shaH dig 105 m = verifyM m := rfl
    rw [e]
    have hv := verify_spec hin h hm
    unfold RPost at hv
    cases hr : verifyM m with
    | error c =>
      rw [hr] at hv
      go_enter Tryz.func114, Tryz.ntmps114
      go_wp2_with (first | (go_at_call 116; refine (hv).mono ?_; rintro e w' ⟨rfl, J, L', hn⟩; replace hS := hS.trans hn; clear hn))
      exact ⟨rfl, rfl, J, _, hS⟩
    | ok um =>
      rw [hr] at hv
      go_enter Tryz.func114, Tryz.ntmps114
      go_wp2_with (first | (go_at_call 116; refine (hv).mono ?_; rintro e w' ⟨J, L', v, rfl, _, hn, hma⟩; replace hS := hS.trans hn; clear hn))
      exact bodyPost_end (results_none rfl _ _ _) rfl ⟨J, L', _, rfl, trivial, hS, hma⟩
  · have e : otherM shaH dig 106 m = .error 133 := rfl
    rw [e]
    go_enter Tryz.func114, Tryz.ntmps114
    go_wp2_with (first | (go_at_call 94; refine (fail_spec (by decide)).mono ?_; rintro e w' ⟨rfl, rfl⟩))
    exact ⟨rfl, rfl, I, _, hS⟩
set_option maxRecDepth 10000 in
set_option maxHeartbeats 1000000 in
theorem otherHash_spec {I : Imm} {w : World} {mb sp : Nat} {dig : Bs} {m : PM} {L : List Item} (hin : Init I L w) (h : MachAt I mb sp dig m L) (hd : dig.length = 32) (hm : m.Ok) {c : UInt8} (hc : c = 168 ∨ c = 169 ∨ c = 170) :
    Calls Tryz.prog 114 #[.pointer (some ⟨mb, 0, none⟩), bv c] w (RPost anyR L I w mb sp dig (otherM shaH dig c m)) := by
  have hS := hin.nx
  have hh := hash_spec hin h hm hc
  have e : otherM shaH dig c m = hashM shaH c m := by rcases hc with rfl | rfl | rfl <;> rfl
  rw [e]
  unfold RPost at hh
  cases hr : hashM shaH c m with
  | error c0 =>
    rw [hr] at hh
    rcases hc with rfl | rfl | rfl
    all_goals
      replace hh : Calls _ _ #[_, .int .u8 _] _ _ := hh
      show Calls _ _ #[_, .int .u8 _] _ _
      go_enter Tryz.func114, Tryz.ntmps114
      go_wp2_with (first | (go_at_call 138; refine (hh).mono ?_; rintro e w' ⟨rfl, J, L', hn⟩; replace hS := hS.trans hn; clear hn))
      exact ⟨rfl, rfl, J, _, hS⟩
  | ok um =>
    rw [hr] at hh
    rcases hc with rfl | rfl | rfl
    all_goals
      replace hh : Calls _ _ #[_, .int .u8 _] _ _ := hh
      show Calls _ _ #[_, .int .u8 _] _ _
      go_enter Tryz.func114, Tryz.ntmps114
      go_wp2_with (first | (go_at_call 138; refine (hh).mono ?_; rintro e w' ⟨J, L', v, rfl, _, hn, hma⟩; replace hS := hS.trans hn; clear hn))
      exact bodyPost_end (results_none rfl _ _ _) rfl ⟨J, L', _, rfl, trivial, hS, hma⟩
end Go.Proofs.YtmlgieclkedomaaGreat

namespace Go.Proofs.YtmlgieclkedomaaGreat
open Go Go.RowKit
attribute [local irreducible] shaH

set_option maxRecDepth 10000 in
set_option maxHeartbeats 1000000 in
theorem otherMulti_spec {I : Imm} {w : World} {mb sp : Nat} {dig : Bs} {m : PM} {L : List Item} (hin : Init I L w) (h : MachAt I mb sp dig m L) (hd : dig.length = 32) (hm : m.Ok) {c : UInt8} (hc : c = 174 ∨ c = 175) :
    Calls Tryz.prog 114 #[.pointer (some ⟨mb, 0, none⟩), bv c] w (RPost anyR L I w mb sp dig (otherM shaH dig c m)) := by
  have hS := hin.nx
  have hh := multi_spec hin h hd hm
  have e : otherM shaH dig c m = multiM shaH dig m := by rcases hc with rfl | rfl <;> rfl
  rw [e]
  unfold RPost at hh
  cases hr : multiM shaH dig m with
  | error c0 =>
    rw [hr] at hh
    rcases hc with rfl | rfl
    all_goals
      show Calls _ _ #[_, .int .u8 _] _ _
      go_enter Tryz.func114, Tryz.ntmps114
      go_wp2_with (first | (go_at_call 139; refine (hh).mono ?_; rintro e w' ⟨rfl, J, L', hn⟩; replace hS := hS.trans hn; clear hn))
      exact ⟨rfl, rfl, J, _, hS⟩
  | ok um =>
    rw [hr] at hh
    rcases hc with rfl | rfl
    all_goals
      show Calls _ _ #[_, .int .u8 _] _ _
      go_enter Tryz.func114, Tryz.ntmps114
      go_wp2_with (first | (go_at_call 139; refine (hh).mono ?_; rintro e w' ⟨J, L', v, rfl, _, hn, hma⟩; replace hS := hS.trans hn; clear hn))
      exact bodyPost_end (results_none rfl _ _ _) rfl ⟨J, L', _, rfl, trivial, hS, hma⟩
set_option maxRecDepth 10000 in
set_option maxHeartbeats 1000000 in
theorem otherNo_spec {I : Imm} {w : World} {mb sp : Nat} {dig : Bs} {m : PM} {L : List Item} (hin : Init I L w) (h : MachAt I mb sp dig m L) {c : UInt8} (h1 : ¬ c = 97) (h2 : ¬ c = 105) (h3 : ¬ c = 106) (h4 : ¬ c = 135) (h5 : ¬ c = 136) (h6 : ¬ c = 168) (h7 : ¬ c = 169) (h8 : ¬ c = 170) (h9 : ¬ c = 172) (h10 : ¬ c = 173) (h11 : ¬ c = 174) (h12 : ¬ c = 175) :
    Calls Tryz.prog 114 #[.pointer (some ⟨mb, 0, none⟩), bv c] w (RPost anyR L I w mb sp dig (otherM shaH dig c m)) := by
  have hS := hin.nx
  have e : otherM shaH dig c m = .error 130 := by unfold otherM; simp [h1, h2, h3, h4, h5, h6, h7, h8, h9, h10, h11, h12]
  rw [e]
  obtain ⟨n, hn⟩ : ∃ n : Int, n = c.toNat := ⟨_, rfl⟩
  have hcv : bv c = .int .u8 n := by rw [hn]
  rw [hcv]
  replace h1 := ne_code c 97 97 rfl h1 hn
  replace h2 := ne_code c 105 105 rfl h2 hn
  replace h3 := ne_code c 106 106 rfl h3 hn
  replace h4 := ne_code c 135 135 rfl h4 hn
  replace h5 := ne_code c 136 136 rfl h5 hn
  replace h6 := ne_code c 168 168 rfl h6 hn
  replace h7 := ne_code c 169 169 rfl h7 hn
  replace h8 := ne_code c 170 170 rfl h8 hn
  replace h9 := ne_code c 172 172 rfl h9 hn
  replace h10 := ne_code c 173 173 rfl h10 hn
  replace h11 := ne_code c 174 174 rfl h11 hn
  replace h12 := ne_code c 175 175 rfl h12 hn
  clear hn hcv e
  go_enter Tryz.func114, Tryz.ntmps114
  go_wp2_with (first | (go_at_call 94; refine (fail_spec (by decide)).mono ?_; rintro e w' ⟨rfl, rfl⟩))
  exact ⟨rfl, rfl, I, _, hS⟩
end Go.Proofs.YtmlgieclkedomaaGreat

namespace Go.Proofs.YtmlgieclkedomaaGreat
open Go Go.RowKit
attribute [local irreducible] shaH

set_option maxRecDepth 10000 in
set_option maxHeartbeats 2000000 in
theorem otherSig_spec {I : Imm} {w : World} {mb sp : Nat} {dig : Bs} {m : PM} {L : List Item} (hin : Init I L w) (h : MachAt I mb sp dig m L) (hd : dig.length = 32) (hm : m.Ok) {c : UInt8} (hc : c = 172 ∨ c = 173) :
    Calls Tryz.prog 114 #[.pointer (some ⟨mb, 0, none⟩), bv c] w (RPost anyR L I w mb sp dig (otherM shaH dig c m)) := by
  have hS := hin.nx
  obtain ⟨R, hR⟩ : ∃ R, R = otherM shaH dig c m := ⟨_, rfl⟩
  have e : otherM shaH dig c m = bindM (popM m) fun key m => bindM (popM m) fun sig m => pushM (flagB (isSig shaH key sig dig)) m := by rcases hc with rfl | rfl <;> rfl
  rw [← hR]
  rw [e] at hR
  have h0 := pop_spec (dig := dig) hin h hm
  unfold RPost at h0
  cases hr0 : popM m with
  | error e0 =>
    rw [hr0] at h0 hR
    simp only [bindM] at hR
    rw [hR]
    rcases hc with rfl | rfl
    all_goals
      show Calls _ _ #[_, .int .u8 _] _ _
      go_enter Tryz.func114, Tryz.ntmps114
      go_wp2_with (first | (go_at_call 106; refine (h0).mono ?_; rintro e w' ⟨rfl, J, L', hn⟩; replace hS := hS.trans hn; clear hn))
      exact ⟨rfl, rfl, J, _, hS⟩
  | ok r0 =>
    obtain ⟨key, m1⟩ := r0
    obtain ⟨hm1, hb0⟩ := PM.Ok.pop hm hr0
    rw [hr0] at h0 hR
    simp only [bindM] at hR
    clear hr0
    have h1 := fun {I : Imm} {w : World} {L : List Item} (hin : Init I L w) (h : MachAt I mb sp dig m1 L) => pop_spec (dig := dig) hin h hm1
    unfold RPost at h1
    cases hr1 : popM m1 with
    | error e0 =>
      rw [hr1] at h1 hR
      simp only [bindM] at hR
      rw [hR]
      rcases hc with rfl | rfl
      all_goals
        show Calls _ _ #[_, .int .u8 _] _ _
        go_enter Tryz.func114, Tryz.ntmps114
        go_wp2_with (first | ((go_at_call 106; refine (h0).mono ?_; rintro e w' ⟨J0, L0, v0, rfl, hv0, hn, hma0⟩; replace hS := hS.trans hn; clear hn); refine Stop.of ?_))
        refine Stop.to ?_
        go_wp2_with (first | (go_at_call 106; refine (h1 hS.toInit hma0).mono ?_; rintro e w' ⟨rfl, J, L', hn⟩; replace hS := hS.trans hn; clear hn))
        exact ⟨rfl, rfl, J, _, hS⟩
    | ok r1 =>
      obtain ⟨sig, m2⟩ := r1
      obtain ⟨hm2, hb1⟩ := PM.Ok.pop hm1 hr1
      rw [hr1] at h1 hR
      simp only [bindM] at hR
      clear hr1
      obtain ⟨x, hx⟩ : ∃ x, x = isSig shaH key sig dig := ⟨_, rfl⟩
      rw [← hx] at hR
      have Hx := Lib.hid hx
      have hfl : (flagB x).length ≤ 100000 := by cases x <;> decide +kernel
      have h6 := fun {I : Imm} {w : World} {L : List Item} (hin : Init I L w) (h : MachAt I mb sp dig m2 L) {v : Value} (hv : RdB I v (flagB x)) => mpush_spec (dig := dig) hin h hm2 hv hfl
      unfold RPost at h6
      rw [← hR] at h6
      clear hx hR e
      have hf1 : ∀ (ba : Option Addr) (bn bc many : Nat), ((Value.pointer (some ⟨sp, 0, none⟩) :: (bvs dig ++ [.slice ba bn bc, .int .i64 many])).drop 1).take 32 = bvs dig := fun ba bn bc many => by
        rw [List.drop_succ_cons, List.drop_zero, List.take_append_of_le_length (by simp [hd]), List.take_of_length_le (by simp [hd])]
      have hl1 : (bvs dig).length = 32 := by simp [hd]
      cases R with
      | error e1 =>
        rcases hc with rfl | rfl
        all_goals
          show Calls _ _ #[_, .int .u8 _] _ _
          go_enter Tryz.func114, Tryz.ntmps114
          go_wp2_with (first | ((go_at_call 106; refine (h0).mono ?_; rintro e w' ⟨J0, L0, v0, rfl, hv0, hn, hma0⟩; replace hS := hS.trans hn; clear hn); refine Stop.of ?_))
          refine Stop.to ?_
          go_wp2_with (first | ((go_at_call 106; refine (h1 hS.toInit hma0).mono ?_; rintro e w' ⟨J1, L1, v1, rfl, hv1, hn, hma1⟩; have hle1 := hn.le hS.hI; replace hS := hS.trans hn; clear hn; obtain ⟨ba, bc, L7, rfl, hst7⟩ := hma1); refine Stop.of ?_))
          refine Stop.to ?_
          have hk0 : RdB J1 v0 key := (show RdB J0 v0 key from hv0).mono hle1
          have hs0 : RdB J1 v1 sig := hv1
          go_wp2_with (first | ((with_reducible refine gL_load ?_); refine sL_loadA hS rfl _ _ rfl _ _ rfl 0 _ _ rfl (bvs dig) (hf1 _ _ _ _) hl1 ?_) | ((go_at_call 29; refine (Is_spec Of_spec hS.hI hk0 hs0 hd).mono ?_; rintro e w' ⟨J6, rfl, hn⟩; rw [← Hx.out]; have hle6 := hn.le hS.hI; replace hS := hS.pure0 hn; clear hn); refine Stop.of ?_))
          refine Stop.to ?_
          go_wp2_with (first | ((go_at_call 136; refine (Flag_spec hS.hI).mono ?_; rintro e w' ⟨fa, fc, rfl, hn⟩; obtain ⟨K7, hS7, hle7, hrd7⟩ := hS.pureFreeze hn; clear hS hn; have hS := hS7; clear hS7); refine Stop.of ?_))
          refine Stop.to ?_
          have hma7 : MachAt K7 mb sp dig m2 _ := ⟨ba, bc, L7, rfl, hst7.mono (hle6.trans hle7)⟩
          go_wp2_with (first | (go_at_call 109; refine (h6 hS.toInit hma7 hrd7).mono ?_; rintro e w' ⟨rfl, J8, L8, hn⟩; replace hS := hS.trans hn; clear hn))
          exact ⟨rfl, rfl, J8, _, hS⟩
      | ok um =>
        rcases hc with rfl | rfl
        all_goals
          show Calls _ _ #[_, .int .u8 _] _ _
          go_enter Tryz.func114, Tryz.ntmps114
          go_wp2_with (first | ((go_at_call 106; refine (h0).mono ?_; rintro e w' ⟨J0, L0, v0, rfl, hv0, hn, hma0⟩; replace hS := hS.trans hn; clear hn); refine Stop.of ?_))
          refine Stop.to ?_
          go_wp2_with (first | ((go_at_call 106; refine (h1 hS.toInit hma0).mono ?_; rintro e w' ⟨J1, L1, v1, rfl, hv1, hn, hma1⟩; have hle1 := hn.le hS.hI; replace hS := hS.trans hn; clear hn; obtain ⟨ba, bc, L7, rfl, hst7⟩ := hma1); refine Stop.of ?_))
          refine Stop.to ?_
          have hk0 : RdB J1 v0 key := (show RdB J0 v0 key from hv0).mono hle1
          have hs0 : RdB J1 v1 sig := hv1
          go_wp2_with (first | ((with_reducible refine gL_load ?_); refine sL_loadA hS rfl _ _ rfl _ _ rfl 0 _ _ rfl (bvs dig) (hf1 _ _ _ _) hl1 ?_) | ((go_at_call 29; refine (Is_spec Of_spec hS.hI hk0 hs0 hd).mono ?_; rintro e w' ⟨J6, rfl, hn⟩; rw [← Hx.out]; have hle6 := hn.le hS.hI; replace hS := hS.pure0 hn; clear hn); refine Stop.of ?_))
          refine Stop.to ?_
          go_wp2_with (first | ((go_at_call 136; refine (Flag_spec hS.hI).mono ?_; rintro e w' ⟨fa, fc, rfl, hn⟩; obtain ⟨K7, hS7, hle7, hrd7⟩ := hS.pureFreeze hn; clear hS hn; have hS := hS7; clear hS7); refine Stop.of ?_))
          refine Stop.to ?_
          have hma7 : MachAt K7 mb sp dig m2 _ := ⟨ba, bc, L7, rfl, hst7.mono (hle6.trans hle7)⟩
          go_wp2_with (first | (go_at_call 109; refine (h6 hS.toInit hma7 hrd7).mono ?_; rintro e w' ⟨J8, L8, v8, rfl, _, hn, hma8⟩; replace hS := hS.trans hn; clear hn))
          exact bodyPost_end (results_none rfl _ _ _) rfl ⟨J8, L8, _, rfl, trivial, hS, hma8⟩
end Go.Proofs.YtmlgieclkedomaaGreat

namespace Go.Proofs.YtmlgieclkedomaaGreat
open Go Go.RowKit
attribute [local irreducible] shaH

set_option maxRecDepth 10000 in
set_option maxHeartbeats 2000000 in
theorem otherEq_spec {I : Imm} {w : World} {mb sp : Nat} {dig : Bs} {m : PM} {L : List Item} (hin : Init I L w) (h : MachAt I mb sp dig m L) (hd : dig.length = 32) (hm : m.Ok) {c : UInt8} (hc : c = 135 ∨ c = 136) :
    Calls Tryz.prog 114 #[.pointer (some ⟨mb, 0, none⟩), bv c] w (RPost anyR L I w mb sp dig (otherM shaH dig c m)) := by
  have hS := hin.nx
  obtain ⟨R, hR⟩ : ∃ R, R = otherM shaH dig c m := ⟨_, rfl⟩
  have e : otherM shaH dig c m = bindM (popM m) fun key m => bindM (popM m) fun sig m => pushM (flagB (decide (sig = key))) m := by rcases hc with rfl | rfl <;> rfl
  rw [← hR]
  rw [e] at hR
  have h0 := pop_spec (dig := dig) hin h hm
  unfold RPost at h0
  cases hr0 : popM m with
  | error e0 =>
    rw [hr0] at h0 hR
    simp only [bindM] at hR
    rw [hR]
    rcases hc with rfl | rfl
    all_goals
      show Calls _ _ #[_, .int .u8 _] _ _
      go_enter Tryz.func114, Tryz.ntmps114
      go_wp2_with (first | (go_at_call 106; refine (h0).mono ?_; rintro e w' ⟨rfl, J, L', hn⟩; replace hS := hS.trans hn; clear hn))
      exact ⟨rfl, rfl, J, _, hS⟩
  | ok r0 =>
    obtain ⟨key, m1⟩ := r0
    obtain ⟨hm1, hb0⟩ := PM.Ok.pop hm hr0
    rw [hr0] at h0 hR
    simp only [bindM] at hR
    clear hr0
    have h1 := fun {I : Imm} {w : World} {L : List Item} (hin : Init I L w) (h : MachAt I mb sp dig m1 L) => pop_spec (dig := dig) hin h hm1
    unfold RPost at h1
    cases hr1 : popM m1 with
    | error e0 =>
      rw [hr1] at h1 hR
      simp only [bindM] at hR
      rw [hR]
      rcases hc with rfl | rfl
      all_goals
        show Calls _ _ #[_, .int .u8 _] _ _
        go_enter Tryz.func114, Tryz.ntmps114
        go_wp2_with (first | ((go_at_call 106; refine (h0).mono ?_; rintro e w' ⟨J0, L0, v0, rfl, hv0, hn, hma0⟩; replace hS := hS.trans hn; clear hn); refine Stop.of ?_))
        refine Stop.to ?_
        go_wp2_with (first | (go_at_call 106; refine (h1 hS.toInit hma0).mono ?_; rintro e w' ⟨rfl, J, L', hn⟩; replace hS := hS.trans hn; clear hn))
        exact ⟨rfl, rfl, J, _, hS⟩
    | ok r1 =>
      obtain ⟨sig, m2⟩ := r1
      obtain ⟨hm2, hb1⟩ := PM.Ok.pop hm1 hr1
      rw [hr1] at h1 hR
      simp only [bindM] at hR
      clear hr1
      obtain ⟨x, hx⟩ : ∃ x, x = decide (sig = key) := ⟨_, rfl⟩
      rw [← hx] at hR
      have Hx := Lib.hid hx
      have hfl : (flagB x).length ≤ 100000 := by cases x <;> decide +kernel
      have h6 := fun {I : Imm} {w : World} {L : List Item} (hin : Init I L w) (h : MachAt I mb sp dig m2 L) {v : Value} (hv : RdB I v (flagB x)) => mpush_spec (dig := dig) hin h hm2 hv hfl
      unfold RPost at h6
      rw [← hR] at h6
      clear hx hR e
      have hf1 : ∀ (ba : Option Addr) (bn bc many : Nat), ((Value.pointer (some ⟨sp, 0, none⟩) :: (bvs dig ++ [.slice ba bn bc, .int .i64 many])).drop 1).take 32 = bvs dig := fun ba bn bc many => by
        rw [List.drop_succ_cons, List.drop_zero, List.take_append_of_le_length (by simp [hd]), List.take_of_length_le (by simp [hd])]
      have hl1 : (bvs dig).length = 32 := by simp [hd]
      cases R with
      | error e1 =>
        rcases hc with rfl | rfl
        all_goals
          show Calls _ _ #[_, .int .u8 _] _ _
          go_enter Tryz.func114, Tryz.ntmps114
          go_wp2_with (first | ((go_at_call 106; refine (h0).mono ?_; rintro e w' ⟨J0, L0, v0, rfl, hv0, hn, hma0⟩; replace hS := hS.trans hn; clear hn); refine Stop.of ?_))
          refine Stop.to ?_
          go_wp2_with (first | ((go_at_call 106; refine (h1 hS.toInit hma0).mono ?_; rintro e w' ⟨J1, L1, v1, rfl, hv1, hn, hma1⟩; have hle1 := hn.le hS.hI; replace hS := hS.trans hn; clear hn; obtain ⟨ba, bc, L7, rfl, hst7⟩ := hma1); refine Stop.of ?_))
          refine Stop.to ?_
          have hk0 : RdB J1 v0 key := (show RdB J0 v0 key from hv0).mono hle1
          have hs0 : RdB J1 v1 sig := hv1
          go_wp2_with (first | ((go_at_call 137; refine (Equal_spec (hs0.byW hS.hI) (hk0.byW hS.hI)).mono ?_; rintro e w' ⟨rfl, rfl⟩; rw [← Hx.out]); refine Stop.of ?_))
          refine Stop.to ?_
          go_wp2_with (first | ((go_at_call 136; refine (Flag_spec hS.hI).mono ?_; rintro e w' ⟨fa, fc, rfl, hn⟩; obtain ⟨K7, hS7, hle7, hrd7⟩ := hS.pureFreeze hn; clear hS hn; have hS := hS7; clear hS7); refine Stop.of ?_))
          refine Stop.to ?_
          have hma7 : MachAt K7 mb sp dig m2 _ := ⟨ba, bc, L7, rfl, hst7.mono hle7⟩
          go_wp2_with (first | (go_at_call 109; refine (h6 hS.toInit hma7 hrd7).mono ?_; rintro e w' ⟨rfl, J8, L8, hn⟩; replace hS := hS.trans hn; clear hn))
          exact ⟨rfl, rfl, J8, _, hS⟩
      | ok um =>
        rcases hc with rfl | rfl
        all_goals
          show Calls _ _ #[_, .int .u8 _] _ _
          go_enter Tryz.func114, Tryz.ntmps114
          go_wp2_with (first | ((go_at_call 106; refine (h0).mono ?_; rintro e w' ⟨J0, L0, v0, rfl, hv0, hn, hma0⟩; replace hS := hS.trans hn; clear hn); refine Stop.of ?_))
          refine Stop.to ?_
          go_wp2_with (first | ((go_at_call 106; refine (h1 hS.toInit hma0).mono ?_; rintro e w' ⟨J1, L1, v1, rfl, hv1, hn, hma1⟩; have hle1 := hn.le hS.hI; replace hS := hS.trans hn; clear hn; obtain ⟨ba, bc, L7, rfl, hst7⟩ := hma1); refine Stop.of ?_))
          refine Stop.to ?_
          have hk0 : RdB J1 v0 key := (show RdB J0 v0 key from hv0).mono hle1
          have hs0 : RdB J1 v1 sig := hv1
          go_wp2_with (first | ((go_at_call 137; refine (Equal_spec (hs0.byW hS.hI) (hk0.byW hS.hI)).mono ?_; rintro e w' ⟨rfl, rfl⟩; rw [← Hx.out]); refine Stop.of ?_))
          refine Stop.to ?_
          go_wp2_with (first | ((go_at_call 136; refine (Flag_spec hS.hI).mono ?_; rintro e w' ⟨fa, fc, rfl, hn⟩; obtain ⟨K7, hS7, hle7, hrd7⟩ := hS.pureFreeze hn; clear hS hn; have hS := hS7; clear hS7); refine Stop.of ?_))
          refine Stop.to ?_
          have hma7 : MachAt K7 mb sp dig m2 _ := ⟨ba, bc, L7, rfl, hst7.mono hle7⟩
          go_wp2_with (first | (go_at_call 109; refine (h6 hS.toInit hma7 hrd7).mono ?_; rintro e w' ⟨J8, L8, v8, rfl, _, hn, hma8⟩; replace hS := hS.trans hn; clear hn))
          exact bodyPost_end (results_none rfl _ _ _) rfl ⟨J8, L8, _, rfl, trivial, hS, hma8⟩
end Go.Proofs.YtmlgieclkedomaaGreat

namespace Go.Proofs.YtmlgieclkedomaaGreat
open Go Go.RowKit
theorem other_spec {I : Imm} {w : World} {mb sp : Nat} {dig : Bs} {m : PM} {L : List Item} (hin : Init I L w) (h : MachAt I mb sp dig m L) (hd : dig.length = 32) (hm : m.Ok) {c : UInt8} :
    Calls Tryz.prog 114 #[.pointer (some ⟨mb, 0, none⟩), bv c] w (RPost anyR L I w mb sp dig (otherM shaH dig c m)) := by
  by_cases a1 : c = 97 ∨ c = 105 ∨ c = 106
  · exact other1_spec hin h hd hm a1
  by_cases a2 : c = 135 ∨ c = 136
  · exact otherEq_spec hin h hd hm a2
  by_cases a3 : c = 168 ∨ c = 169 ∨ c = 170
  · exact otherHash_spec hin h hd hm a3
  by_cases a4 : c = 172 ∨ c = 173
  · exact otherSig_spec hin h hd hm a4
  by_cases a5 : c = 174 ∨ c = 175
  · exact otherMulti_spec hin h hd hm a5
  simp only [not_or] at a1 a2 a3 a4 a5
  exact otherNo_spec hin h a1.1 a1.2.1 a1.2.2 a2.1 a2.2 a3.1 a3.2.1 a3.2.2 a4.1 a4.2 a5.1 a5.2
end Go.Proofs.YtmlgieclkedomaaGreat

namespace Go.Proofs.YtmlgieclkedomaaGreat
open Go Go.RowKit

set_option maxRecDepth 100000 in
set_option maxHeartbeats 1000000 in
theorem Two_spec {w : World} {c : UInt8} {n m : Int} (hc : isTwo c = true) (h1 : -9223372036854775808 ≤ n) (h2 : n ≤ 9223372036854775807) (h3 : -9223372036854775808 ≤ m) (h4 : m ≤ 9223372036854775807) :
    Calls Tryz.prog 134 #[bv c, .int .i64 n, .int .i64 m] w fun e w' => e = .returned (.tuple #[.int .i64 (if mayN n && mayN m then (twosN c n m).getD 0 else 0), .int .i64 (if mayN n && mayN m then 0 else 110)]) ∧ w = w' := by
  simp only [isTwo, Bool.or_eq_true, decide_eq_true_eq] at hc
  by_cases hm : (mayN n && mayN m) = true
  · have hm' : (-2147483647 ≤ n ∧ n ≤ 2147483647) ∧ -2147483647 ≤ m ∧ m ≤ 2147483647 := by simpa [mayN] using hm
    rw [if_pos hm, if_pos hm]
    have Hm := Lib.hid hm
    clear hm
    rcases hc with (((((((((((rfl | rfl) | rfl) | rfl) | rfl) | rfl) | rfl) | rfl) | rfl) | rfl) | rfl) | rfl) | rfl
    all_goals
      show Calls _ _ #[.int .u8 _, _, _] _ _
      simp only [twosN, flagN]
      go_enter Tryz.func134, Tryz.ntmps134
      go_wp2
      all_goals go_ret2
      all_goals refine ⟨?_, rfl⟩
      all_goals first | rfl | (simp; done) | (simp; omega) | (simp_all; done) | (simp_all; omega) | (exfalso; omega)
  · rw [if_neg hm, if_neg hm]
    have hm' : mayN n = false ∨ (mayN n = true ∧ mayN m = false) := by
      cases h1 : mayN n <;> cases h2 : mayN m <;> simp_all
    clear hm
    rcases hm' with hm' | ⟨hm', hm2⟩
    all_goals
      rcases hc with (((((((((((rfl | rfl) | rfl) | rfl) | rfl) | rfl) | rfl) | rfl) | rfl) | rfl) | rfl) | rfl) | rfl
      all_goals
        show Calls _ _ #[.int .u8 _, _, _] _ _
        go_enter Tryz.func134, Tryz.ntmps134
        go_wp2_with (first | (go_at_call 164; refine (numMay_spec).mono ?_; rintro e w' ⟨rfl, rfl⟩; first | rw [hm'] | rw [hm2]) | go_in)
        all_goals go_ret2
        all_goals exact ⟨rfl, rfl⟩
end Go.Proofs.YtmlgieclkedomaaGreat

namespace Go.Proofs.YtmlgieclkedomaaGreat
open Go Go.RowKit

def tookM (k i : Nat) (m mi : PM) (l : List Int) : Prop := takeNums k m = bindM (takeNums (k - i) mi) fun l' m => okM (l' ++ l) m
theorem tookM.zero (k : Nat) (m : PM) : tookM k 0 m m [] := by
  unfold tookM
  rw [Nat.sub_zero]
  cases takeNums k m with
  | error e => rfl
  | ok x => obtain ⟨l, m2⟩ := x; simp [bindM, okM]
theorem tookM.fail {k i : Nat} {m mi : PM} {l : List Int} (h : tookM k i m mi l) (hi : i < k) {c : Int} (hr : numM mi = .error c) : takeNums k m = .error c := by
  rw [h, show k - i = (k - (i + 1)) + 1 by omega]
  simp [takeNums, hr, bindM]
theorem tookM.step {k i : Nat} {m mi m2 : PM} {l : List Int} (h : tookM k i m mi l) (hi : i < k) {x : Int} (hr : numM mi = .ok (x, m2)) : tookM k (i + 1) m m2 (x :: l) := by
  unfold tookM at *
  rw [h, show k - i = (k - (i + 1)) + 1 by omega]
  simp only [takeNums, hr, bindM]
  cases takeNums (k - (i + 1)) m2 with
  | error e => rfl
  | ok y => obtain ⟨l2, m3⟩ := y; simp [okM]
theorem tookM.done {k : Nat} {m mi : PM} {l : List Int} (h : tookM k k m mi l) : takeNums k m = .ok (l, mi) := by
  rw [h, Nat.sub_self]; rfl
def intV (l : List Int) : List Value := l.map fun x => .int .i64 x
def numC (k i : Nat) (l : List Int) : List Value := List.replicate (k - i) (.int .i64 0) ++ intV l ++ List.replicate (3 - k) (.int .i64 0)
theorem numC_set {k i : Nat} {l : List Int} (hi : i < k) (x : Int) : (numC k i l).set (k - 1 - i) (.int .i64 x) = numC k (i + 1) (x :: l) := by
  unfold numC
  rw [show k - i = (k - (i + 1)) + 1 by omega, List.replicate_succ', show k - 1 - i = k - (i + 1) by omega]
  simp [intV, List.set_append]
theorem decB_bound {b : Bs} {n : Int} (h : decB b = some n) : -4294967296 ≤ n ∧ n ≤ 4294967296 := by
  unfold decB at h
  split at h
  · rename_i hc
    cases h
    have hp : ∀ a : Bs, a.length ≤ 4 → leN a < 4294967296 := fun a ha => by
      have h1 := leN_lt a
      have h2 : 256 ^ a.length ≤ 256 ^ 4 := Nat.pow_le_pow_right (by decide) ha
      omega
    unfold decI
    split
    · omega
    · rename_i c he
      have hne : b ≠ [] := by rintro rfl; simp at he
      have hl := List.length_pos_iff.2 hne
      have h1 := hp (b.dropLast ++ [c &&& 127]) (by simp; omega)
      have h2 := hp b hc.1
      split <;> omega
  · cases h
theorem numM_bound {m m2 : PM} {x : Int} (h : numM m = .ok (x, m2)) : -4294967296 ≤ x ∧ x ≤ 4294967296 := by
  unfold numM at h
  split at h
  · cases h
  · split at h
    · cases h
    · rename_i hd; cases h; exact decB_bound hd
theorem onesN_bound {c : UInt8} {x n : Int} (hm : mayN x = true) (h : onesN c x = some n) : -8589934592 ≤ n ∧ n ≤ 8589934592 := by
  simp only [mayN, decide_eq_true_eq] at hm
  unfold onesN at h
  repeat' split at h
  all_goals first | (cases h; done) | (simp only [Option.some.injEq] at h; subst h; first | omega | (unfold flagN; split <;> omega))
theorem ite_some {p : Prop} [Decidable p] {a n : Int} {r : Option Int} (h : (if p then some a else r) = some n) : n = a ∨ r = some n := by
  split at h
  · cases h; exact .inl rfl
  · exact .inr h
theorem flagN_bound (b : Bool) : 0 ≤ flagN b ∧ flagN b ≤ 1 := by cases b <;> decide
theorem twosN_bound {c : UInt8} {x y n : Int} (hm : mayN x = true) (hm2 : mayN y = true) (h : twosN c x y = some n) : -8589934592 ≤ n ∧ n ≤ 8589934592 := by
  simp only [mayN, decide_eq_true_eq] at hm hm2
  unfold twosN at h
  iterate 13
    rcases ite_some h with e | h
    · first
        | omega
        | (have hf : ∀ b, n = flagN b → -8589934592 ≤ n ∧ n ≤ 8589934592 := fun b hb => by have := flagN_bound b; omega
           exact hf _ e)
  cases h
theorem onesN_some {c : UInt8} (x : Int) (h : isOne c = true) : ∃ n, onesN c x = some n := by
  simp only [isOne, Bool.or_eq_true, decide_eq_true_eq] at h
  rcases h with ((((rfl | rfl) | rfl) | rfl) | rfl) | rfl
  all_goals exact ⟨_, rfl⟩
theorem twosN_some {c : UInt8} (x y : Int) (h : isTwo c = true) : ∃ n, twosN c x y = some n := by
  simp only [isTwo, Bool.or_eq_true, decide_eq_true_eq] at h
  rcases h with (((((((((((rfl | rfl) | rfl) | rfl) | rfl) | rfl) | rfl) | rfl) | rfl) | rfl) | rfl) | rfl) | rfl
  all_goals exact ⟨_, rfl⟩
set_option maxRecDepth 10000 in
set_option maxHeartbeats 1000000 in
theorem numbers_spec {I : Imm} {w : World} {mb sp : Nat} {dig : Bs} {m : PM} {L : List Item} (hin : Init I L w) (h : MachAt I mb sp dig m L) (hm : m.Ok) {c : UInt8} (hk : 0 < arityN c) (hk3 : arityN c ≤ 3) :
    Calls Tryz.prog 113 #[.pointer (some ⟨mb, 0, none⟩), bv c] w (RPost anyR L I w mb sp dig (numbersM c m)) := by
  have hS := hin.nx
  obtain ⟨R, hR⟩ : ∃ R, R = numbersM c m := ⟨_, rfl⟩
  rw [← hR]
  have HR := Lib.hid hR
  clear hR
  obtain ⟨k, hke⟩ : ∃ k, k = arityN c := ⟨_, rfl⟩
  rw [← hke] at hk hk3
  have Hk := Lib.hid hke
  clear hke
  go_enter Tryz.func113, Tryz.ntmps113
  go_wp2_with (first | (refine sL_alloc hS rfl 193 rfl ?_; clear hS; intro nb w' hnb hS) | (go_at_call 112; refine (Arity_spec).mono ?_; rintro e w' ⟨rfl, rfl⟩; rw [← Hk.out]))
  go_loopw [6] (fun v6 wr => ∃ i K L' mi l, i ≤ k ∧ l.length = i ∧ (∀ x ∈ l, -4294967296 ≤ x ∧ x ≤ 4294967296) ∧ v6 = .int .i64 ((k : Int) - 1 - (i : Nat)) ∧ tookM k i m mi l ∧ mi.Ok ∧ MachAt K mb sp dig mi L' ∧ Nx L I w K (.blk nb (numC k i l) 193 :: L') wr) (fun v6 _ => (intOf v6 + 1).toNat)
  case atStart =>
    refine ⟨0, I, L, m, [], by omega, rfl, by simp, by simp, tookM.zero k m, hm, h, ?_⟩
    have e : numC k 0 [] = List.replicate 3 (Value.int .i64 0) := by
      unfold numC intV
      rw [List.map_nil, List.append_nil, List.replicate_append_replicate]; congr 1; omega
    rw [e]; exact hS
  case round =>
    clear hS
    obtain ⟨i, K, L', mi, l, hi, hll, hlb, rfl, htk, hmi, hma, hS⟩ := hrel
    by_cases hlt : i < k
    · obtain ⟨j, hj⟩ : ∃ j, j = k - 1 - i := ⟨_, rfl⟩
      have hji : (k : Int) - 1 - (i : Nat) = (j : Nat) := by omega
      rw [hji]
      have hj3 : (j : Int) < 3 := by omega
      have hj0 : ¬ (j : Int) < 0 := by omega
      have hnum := number_spec (dig := dig) (Init.right (L := [_]) hS.toInit) hma hmi
      unfold RPost intR at hnum
      cases hr : numM mi with
      | error e0 =>
        rw [hr] at hnum
        have hres : R = .error e0 := by rw [HR.out]; unfold numbersM; rw [← Hk.out, htk.fail hlt hr]; rfl
        rw [hres]
        clear hji
        go_wp2_with (first | (go_at_call 132; refine (hnum).mono ?_; rintro e w' ⟨rfl, J, L2, hn⟩; replace hS := Nx.callTail (L2 := [_]) hS hn; clear hn))
        exact ⟨rfl, rfl, J, _, hS⟩
      | ok xm =>
        obtain ⟨x, m2⟩ := xm
        rw [hr] at hnum
        have htk2 := htk.step hlt hr
        have hm2 := numM_ok hmi hr
        have hbd := numM_bound hr
        have Hlb := Lib.hid hlb
        clear hlb
        have hset := numC_set (k := k) (i := i) (l := l) hlt x
        rw [← hj] at hset
        have hlen : j < (numC k i l).length := by unfold numC intV; simp; omega
        have Hset := Lib.hid hset
        have Hj := Lib.hid hj
        clear hji hset hj hr
        go_wp2_with (first | (go_at_call 132; refine (hnum).mono ?_; rintro e w' ⟨J, L2, v, rfl, rfl, hn, hma2⟩; replace hS := Nx.callTail (L2 := [_]) hS hn; clear hn; simp only [List.cons_append, List.nil_append] at hS) | ((with_reducible refine gL_store ?_); refine sL_store hS rfl _ _ _ rfl _ _ rfl 0 _ _ rfl (.int .i64 x) rfl rfl hlen ?_; clear hS; intro w' hS; simp only [List.set_cons_zero] at hS; rw [Hset.out] at hS))
        have hjj := Hj.out
        go_roundw
        case rel => exact ⟨i + 1, J, L2, m2, x :: l, hlt, by simp [hll], List.forall_mem_cons.2 ⟨hbd, Hlb.out⟩, by congr 1; omega, htk2, hm2, hma2, hS⟩
        case measure => (simp [intOf]; try omega)
    · obtain rfl : i = k := by omega
      have hdone := htk.done
      have hR2 : R = (match outN c l with | none => .error 110 | some n => if n ≤ -549755813888 ∨ 549755813888 ≤ n then .error 110 else pushM (numB n) mi) := by
        rw [HR.out]; unfold numbersM; rw [← Hk.out, hdone]; rfl
      have hcells : numC i i l = intV l ++ List.replicate (3 - i) (.int .i64 0) := by unfold numC; rw [Nat.sub_self]; rfl
      rw [hcells] at hS
      clear hcells hdone htk HR hm h hin hi hlt
      have hk' := Hk.out
      clear Hk
      rcases (by omega : i = 1 ∨ i = 2 ∨ i = 3) with rfl | rfl | rfl
      · obtain ⟨x, rfl⟩ : ∃ x, l = [x] := List.length_eq_one_iff.1 hll
        have hone : isOne c = true := by
          unfold arityN at hk'; split at hk'
          · assumption
          · split at hk'
            · cases hk'
            · split at hk' <;> cases hk'
        obtain ⟨hx1, hx2⟩ := hlb x (by simp)
        obtain ⟨n, hn⟩ := onesN_some x hone
        have ho : outN c [x] = if mayN x then some n else none := by unfold outN; rw [if_pos hone]; simp only [List.getD_cons_zero]; rw [hn]
        have hOne := fun {w : World} => One_spec (w := w) (n := x) hone (by omega) (by omega)
        rw [ho] at hR2
        simp only [hn, Option.getD_some] at hOne
        simp only [intV, List.map_cons, List.map_nil, List.replicate_succ, List.replicate_zero, List.cons_append, List.nil_append, Nat.reduceSub] at hS
        clear hlb hk' ho hll hk hk3
        cases hmay : mayN x with
        | false =>
          simp only [hmay, Bool.false_eq_true, if_false] at hOne hR2
          rw [hR2]
          go_wp2_with (first | ((with_reducible refine gL_load ?_); refine sL_load hS rfl _ _ rfl _ _ rfl 0 _ _ rfl _ rfl ?_) | (go_at_call 133; refine (hOne).mono ?_; rintro e w' ⟨rfl, rfl⟩) | (go_at_call 94; refine (fail_spec (by decide)).mono ?_; rintro e w' ⟨rfl, rfl⟩))
          exact ⟨rfl, rfl, K, _, hS⟩
        | true =>
          obtain ⟨hn1, hn2⟩ := onesN_bound hmay hn
          simp only [hmay, if_true] at hOne hR2
          rw [if_neg (by omega)] at hR2
          clear hn hmay
          have hnl : (numB n).length ≤ 100000 := by have := numB_length n 8 (by omega); omega
          have hpush := fun {I : Imm} {w : World} {L : List Item} (hin : Init I L w) (h : MachAt I mb sp dig mi L) {v : Value} (hv : RdB I v (numB n)) => mpush_spec (dig := dig) hin h hmi hv hnl
          unfold RPost at hpush
          rw [← hR2] at hpush
          have HR2 := Lib.hid hR2
          clear hR2
          cases R with
          | error e1 =>
            go_wp2_with (first | ((with_reducible refine gL_load ?_); refine sL_load hS rfl _ _ rfl _ _ rfl 0 _ _ rfl _ rfl ?_) | (go_at_call 133; refine (hOne).mono ?_; rintro e w' ⟨rfl, rfl⟩) | (go_at_call 94; refine (failNo_spec).mono ?_; rintro e w' ⟨⟨_, rfl⟩, rfl⟩) | ((go_at_call 30; refine (Encode_spec hS.hI (by omega) (by omega)).mono ?_; rintro e w' ⟨na, nc, rfl, hn⟩; obtain ⟨K2, hS2, hle2, hrd2⟩ := hS.pureFreeze hn; clear hS hn; have hS := hS2; clear hS2); refine Stop.of ?_))
            refine Stop.to ?_
            go_wp2_with (first | (go_at_call 94; refine (failNo_spec).mono ?_; rintro e w' ⟨⟨_, rfl⟩, rfl⟩) | (go_at_call 109; refine (hpush (Init.right (L := [_]) hS.toInit) (hma.mono hle2) hrd2).mono ?_; rintro e w' ⟨rfl, J8, L8, hn⟩; replace hS := Nx.callTail (L2 := [_]) hS hn; clear hn))
            exact ⟨rfl, rfl, J8, _, hS⟩
          | ok um =>
            go_wp2_with (first | ((with_reducible refine gL_load ?_); refine sL_load hS rfl _ _ rfl _ _ rfl 0 _ _ rfl _ rfl ?_) | (go_at_call 133; refine (hOne).mono ?_; rintro e w' ⟨rfl, rfl⟩) | (go_at_call 94; refine (failNo_spec).mono ?_; rintro e w' ⟨⟨_, rfl⟩, rfl⟩) | ((go_at_call 30; refine (Encode_spec hS.hI (by omega) (by omega)).mono ?_; rintro e w' ⟨na, nc, rfl, hn⟩; obtain ⟨K2, hS2, hle2, hrd2⟩ := hS.pureFreeze hn; clear hS hn; have hS := hS2; clear hS2); refine Stop.of ?_))
            refine Stop.to ?_
            go_wp2_with (first | (go_at_call 94; refine (failNo_spec).mono ?_; rintro e w' ⟨⟨_, rfl⟩, rfl⟩) | (go_at_call 109; refine (hpush (Init.right (L := [_]) hS.toInit) (hma.mono hle2) hrd2).mono ?_; rintro e w' ⟨J8, L8, v8, rfl, _, hn, hma8⟩; replace hS := Nx.callTail (L2 := [_]) hS hn; clear hn))
            exact bodyPost_end (results_none rfl _ _ _) rfl ⟨J8, L8, _, rfl, trivial, hS.drop, hma8⟩
      · obtain ⟨x, y, rfl⟩ : ∃ x y, l = [x, y] := by match l, hll with | [x, y], _ => exact ⟨x, y, rfl⟩
        have h1 : isOne c = false := by
          cases h1 : isOne c with
          | false => rfl
          | true => unfold arityN at hk'; rw [if_pos h1] at hk'; cases hk'
        have htwo : isTwo c = true := by
          unfold arityN at hk'; rw [if_neg (by rw [h1]; decide)] at hk'
          split at hk'
          · assumption
          · split at hk' <;> cases hk'
        obtain ⟨hx1, hx2⟩ := hlb x (by simp)
        obtain ⟨hy1, hy2⟩ := hlb y (by simp)
        obtain ⟨n, hn⟩ := twosN_some x y htwo
        have ho : outN c [x, y] = if (mayN x && mayN y) then some n else none := by unfold outN; rw [if_neg (by rw [h1]; decide), if_pos htwo]; simp only [List.getD_cons_zero, List.getD_cons_succ]; rw [hn]
        have hTwo := fun {w : World} => Two_spec (w := w) (n := x) (m := y) htwo (by omega) (by omega) (by omega) (by omega)
        rw [ho] at hR2
        simp only [hn, Option.getD_some] at hTwo
        simp only [intV, List.map_cons, List.map_nil, List.replicate_succ, List.replicate_zero, List.cons_append, List.nil_append, Nat.reduceSub] at hS
        clear hlb hk' ho hll hk hk3
        cases hmay : (mayN x && mayN y) with
        | false =>
          simp only [hmay, Bool.false_eq_true, if_false] at hTwo hR2
          rw [hR2]
          go_wp2_with (first | ((with_reducible refine gL_load ?_); refine sL_load hS rfl _ _ rfl _ _ rfl 0 _ _ rfl _ rfl ?_) | (go_at_call 134; refine (hTwo).mono ?_; rintro e w' ⟨rfl, rfl⟩) | (go_at_call 94; refine (fail_spec (by decide)).mono ?_; rintro e w' ⟨rfl, rfl⟩))
          exact ⟨rfl, rfl, K, _, hS⟩
        | true =>
          have hmm := hmay
          rw [Bool.and_eq_true] at hmm
          obtain ⟨hn1, hn2⟩ := twosN_bound hmm.1 hmm.2 hn
          simp only [hmay, if_true] at hTwo hR2
          rw [if_neg (by omega)] at hR2
          clear hn hmay hmm
          have hnl : (numB n).length ≤ 100000 := by have := numB_length n 8 (by omega); omega
          have hpush := fun {I : Imm} {w : World} {L : List Item} (hin : Init I L w) (h : MachAt I mb sp dig mi L) {v : Value} (hv : RdB I v (numB n)) => mpush_spec (dig := dig) hin h hmi hv hnl
          unfold RPost at hpush
          rw [← hR2] at hpush
          have HR2 := Lib.hid hR2
          clear hR2
          cases R with
          | error e1 =>
            go_wp2_with (first | ((with_reducible refine gL_load ?_); refine sL_load hS rfl _ _ rfl _ _ rfl 0 _ _ rfl _ rfl ?_) | (go_at_call 134; refine (hTwo).mono ?_; rintro e w' ⟨rfl, rfl⟩) | (go_at_call 94; refine (failNo_spec).mono ?_; rintro e w' ⟨⟨_, rfl⟩, rfl⟩) | ((go_at_call 30; refine (Encode_spec hS.hI (by omega) (by omega)).mono ?_; rintro e w' ⟨na, nc, rfl, hn⟩; obtain ⟨K2, hS2, hle2, hrd2⟩ := hS.pureFreeze hn; clear hS hn; have hS := hS2; clear hS2); refine Stop.of ?_))
            refine Stop.to ?_
            go_wp2_with (first | (go_at_call 94; refine (failNo_spec).mono ?_; rintro e w' ⟨⟨_, rfl⟩, rfl⟩) | (go_at_call 109; refine (hpush (Init.right (L := [_]) hS.toInit) (hma.mono hle2) hrd2).mono ?_; rintro e w' ⟨rfl, J8, L8, hn⟩; replace hS := Nx.callTail (L2 := [_]) hS hn; clear hn))
            exact ⟨rfl, rfl, J8, _, hS⟩
          | ok um =>
            go_wp2_with (first | ((with_reducible refine gL_load ?_); refine sL_load hS rfl _ _ rfl _ _ rfl 0 _ _ rfl _ rfl ?_) | (go_at_call 134; refine (hTwo).mono ?_; rintro e w' ⟨rfl, rfl⟩) | (go_at_call 94; refine (failNo_spec).mono ?_; rintro e w' ⟨⟨_, rfl⟩, rfl⟩) | ((go_at_call 30; refine (Encode_spec hS.hI (by omega) (by omega)).mono ?_; rintro e w' ⟨na, nc, rfl, hn⟩; obtain ⟨K2, hS2, hle2, hrd2⟩ := hS.pureFreeze hn; clear hS hn; have hS := hS2; clear hS2); refine Stop.of ?_))
            refine Stop.to ?_
            go_wp2_with (first | (go_at_call 94; refine (failNo_spec).mono ?_; rintro e w' ⟨⟨_, rfl⟩, rfl⟩) | (go_at_call 109; refine (hpush (Init.right (L := [_]) hS.toInit) (hma.mono hle2) hrd2).mono ?_; rintro e w' ⟨J8, L8, v8, rfl, _, hn, hma8⟩; replace hS := Nx.callTail (L2 := [_]) hS hn; clear hn))
            exact bodyPost_end (results_none rfl _ _ _) rfl ⟨J8, L8, _, rfl, trivial, hS.drop, hma8⟩
      · obtain ⟨x, y, z, rfl⟩ : ∃ x y z, l = [x, y, z] := by match l, hll with | [x, y, z], _ => exact ⟨x, y, z, rfl⟩
        have h1 : isOne c = false := by
          cases h1 : isOne c with
          | false => rfl
          | true => unfold arityN at hk'; rw [if_pos h1] at hk'; cases hk'
        have h2 : isTwo c = false := by
          cases h2 : isTwo c with
          | false => rfl
          | true => unfold arityN at hk'; rw [if_neg (by rw [h1]; decide), if_pos h2] at hk'; cases hk'
        have ho : outN c [x, y, z] = some (flagN (decide (y ≤ x ∧ x < z))) := by unfold outN; rw [if_neg (by rw [h1]; decide), if_neg (by rw [h2]; decide)]; simp only [List.getD_cons_zero, List.getD_cons_succ]
        rw [ho] at hR2
        simp only [intV, List.map_cons, List.map_nil, List.replicate_succ, List.replicate_zero, List.cons_append, List.nil_append, Nat.reduceSub] at hS
        clear hlb hk' ho hll hk hk3 h1 h2
        cases hb : decide (y ≤ x ∧ x < z) with
        | false =>
          have e0 : flagN false = 0 := rfl
          simp only [hb, e0] at hR2
          rw [if_neg (by omega)] at hR2
          clear e0
          have hnl : (numB 0).length ≤ 100000 := by have := numB_length 0 8 (by omega); omega
          have hpush := fun {I : Imm} {w : World} {L : List Item} (hin : Init I L w) (h : MachAt I mb sp dig mi L) {v : Value} (hv : RdB I v (numB 0)) => mpush_spec (dig := dig) hin h hmi hv hnl
          unfold RPost at hpush
          rw [← hR2] at hpush
          have HR2 := Lib.hid hR2
          clear hR2
          cases R with
          | error e1 =>
            go_wp2_with (first | ((with_reducible refine gL_load ?_); refine sL_load hS rfl _ _ rfl _ _ rfl 0 _ _ rfl _ rfl ?_) | (go_at_call 135; refine (Within_spec).mono ?_; rintro e w' ⟨rfl, rfl⟩; rw [hb]) | (go_at_call 94; refine (failNo_spec).mono ?_; rintro e w' ⟨⟨_, rfl⟩, rfl⟩) | ((go_at_call 30; refine (Encode_spec hS.hI (by omega) (by omega)).mono ?_; rintro e w' ⟨na, nc, rfl, hn⟩; obtain ⟨K2, hS2, hle2, hrd2⟩ := hS.pureFreeze hn; clear hS hn; have hS := hS2; clear hS2); refine Stop.of ?_))
            refine Stop.to ?_
            go_wp2_with (first | (go_at_call 94; refine (failNo_spec).mono ?_; rintro e w' ⟨⟨_, rfl⟩, rfl⟩) | (go_at_call 109; refine (hpush (Init.right (L := [_]) hS.toInit) (hma.mono hle2) hrd2).mono ?_; rintro e w' ⟨rfl, J8, L8, hn⟩; replace hS := Nx.callTail (L2 := [_]) hS hn; clear hn))
            exact ⟨rfl, rfl, J8, _, hS⟩
          | ok um =>
            go_wp2_with (first | ((with_reducible refine gL_load ?_); refine sL_load hS rfl _ _ rfl _ _ rfl 0 _ _ rfl _ rfl ?_) | (go_at_call 135; refine (Within_spec).mono ?_; rintro e w' ⟨rfl, rfl⟩; rw [hb]) | (go_at_call 94; refine (failNo_spec).mono ?_; rintro e w' ⟨⟨_, rfl⟩, rfl⟩) | ((go_at_call 30; refine (Encode_spec hS.hI (by omega) (by omega)).mono ?_; rintro e w' ⟨na, nc, rfl, hn⟩; obtain ⟨K2, hS2, hle2, hrd2⟩ := hS.pureFreeze hn; clear hS hn; have hS := hS2; clear hS2); refine Stop.of ?_))
            refine Stop.to ?_
            go_wp2_with (first | (go_at_call 94; refine (failNo_spec).mono ?_; rintro e w' ⟨⟨_, rfl⟩, rfl⟩) | (go_at_call 109; refine (hpush (Init.right (L := [_]) hS.toInit) (hma.mono hle2) hrd2).mono ?_; rintro e w' ⟨J8, L8, v8, rfl, _, hn, hma8⟩; replace hS := Nx.callTail (L2 := [_]) hS hn; clear hn))
            exact bodyPost_end (results_none rfl _ _ _) rfl ⟨J8, L8, _, rfl, trivial, hS.drop, hma8⟩
        | true =>
          have e0 : flagN true = 1 := rfl
          simp only [hb, e0] at hR2
          rw [if_neg (by omega)] at hR2
          clear e0
          have hnl : (numB 1).length ≤ 100000 := by have := numB_length 1 8 (by omega); omega
          have hpush := fun {I : Imm} {w : World} {L : List Item} (hin : Init I L w) (h : MachAt I mb sp dig mi L) {v : Value} (hv : RdB I v (numB 1)) => mpush_spec (dig := dig) hin h hmi hv hnl
          unfold RPost at hpush
          rw [← hR2] at hpush
          have HR2 := Lib.hid hR2
          clear hR2
          cases R with
          | error e1 =>
            go_wp2_with (first | ((with_reducible refine gL_load ?_); refine sL_load hS rfl _ _ rfl _ _ rfl 0 _ _ rfl _ rfl ?_) | (go_at_call 135; refine (Within_spec).mono ?_; rintro e w' ⟨rfl, rfl⟩; rw [hb]) | (go_at_call 94; refine (failNo_spec).mono ?_; rintro e w' ⟨⟨_, rfl⟩, rfl⟩) | ((go_at_call 30; refine (Encode_spec hS.hI (by omega) (by omega)).mono ?_; rintro e w' ⟨na, nc, rfl, hn⟩; obtain ⟨K2, hS2, hle2, hrd2⟩ := hS.pureFreeze hn; clear hS hn; have hS := hS2; clear hS2); refine Stop.of ?_))
            refine Stop.to ?_
            go_wp2_with (first | (go_at_call 94; refine (failNo_spec).mono ?_; rintro e w' ⟨⟨_, rfl⟩, rfl⟩) | (go_at_call 109; refine (hpush (Init.right (L := [_]) hS.toInit) (hma.mono hle2) hrd2).mono ?_; rintro e w' ⟨rfl, J8, L8, hn⟩; replace hS := Nx.callTail (L2 := [_]) hS hn; clear hn))
            exact ⟨rfl, rfl, J8, _, hS⟩
          | ok um =>
            go_wp2_with (first | ((with_reducible refine gL_load ?_); refine sL_load hS rfl _ _ rfl _ _ rfl 0 _ _ rfl _ rfl ?_) | (go_at_call 135; refine (Within_spec).mono ?_; rintro e w' ⟨rfl, rfl⟩; rw [hb]) | (go_at_call 94; refine (failNo_spec).mono ?_; rintro e w' ⟨⟨_, rfl⟩, rfl⟩) | ((go_at_call 30; refine (Encode_spec hS.hI (by omega) (by omega)).mono ?_; rintro e w' ⟨na, nc, rfl, hn⟩; obtain ⟨K2, hS2, hle2, hrd2⟩ := hS.pureFreeze hn; clear hS hn; have hS := hS2; clear hS2); refine Stop.of ?_))
            refine Stop.to ?_
            go_wp2_with (first | (go_at_call 94; refine (failNo_spec).mono ?_; rintro e w' ⟨⟨_, rfl⟩, rfl⟩) | (go_at_call 109; refine (hpush (Init.right (L := [_]) hS.toInit) (hma.mono hle2) hrd2).mono ?_; rintro e w' ⟨J8, L8, v8, rfl, _, hn, hma8⟩; replace hS := Nx.callTail (L2 := [_]) hS hn; clear hn))
            exact bodyPost_end (results_none rfl _ _ _) rfl ⟨J8, L8, _, rfl, trivial, hS.drop, hma8⟩
end Go.Proofs.YtmlgieclkedomaaGreat

namespace Go.Proofs.YtmlgieclkedomaaGreat
open Go Go.RowKit

/-- the bounds that a run keeps between operations -/
structure PM.Good (m : PM) : Prop where
  many : m.stk.length + m.alt.length ≤ 100
  len : ∀ b ∈ m.stk, b.length ≤ 520
  alt : ∀ b ∈ m.alt, b.length ≤ 520
  br : m.br.length ≤ m.many
  cnt : m.many ≤ 100
theorem PM.Good.ok {m : PM} (h : m.Good) : m.Ok :=
  ⟨by have := h.many; omega, fun b hb => by have := h.len b hb; omega, fun b hb => by have := h.alt b hb; omega, by have := h.br; have := h.cnt; omega, by have := h.cnt; omega⟩
theorem mem_dropLast {l : List Bs} {b : Bs} (h : b ∈ l.dropLast) : b ∈ l := (List.dropLast_prefix l).subset h
def Keeps {α : Type} (r : RM α) : Prop := ∀ a m, r = .ok (a, m) → m.Good
theorem Keeps.err {α : Type} {e : Int} : Keeps (α := α) (.error e) := fun _ _ h => by cases h
theorem Keeps.ok {α : Type} {a : α} {m : PM} (h : m.Good) : Keeps (okM a m) := fun _ _ e => by cases e; exact h
theorem Keeps.ok' {α : Type} {a : α} {m : PM} (h : m.Good) : Keeps (α := α) (.ok (a, m)) := fun _ _ e => by cases e; exact h
theorem Keeps.bind {α β : Type} {x : RM α} {f : α → PM → RM β} (h : Keeps x) (hf : ∀ a m, m.Good → Keeps (f a m)) : Keeps (bindM x f) := by
  cases x with
  | error e => exact .err
  | ok r => obtain ⟨a, m⟩ := r; exact hf a m (h a m rfl)
theorem popM_keeps {m : PM} (h : m.Good) : Keeps (popM m) := by
  unfold popM
  split
  · exact .err
  · refine .ok' ⟨by have := h.many; simp; omega, fun b hb => h.len b (mem_dropLast hb), h.alt, h.br, h.cnt⟩
theorem numM_keeps {m : PM} (h : m.Good) : Keeps (numM m) := by
  unfold numM
  split
  · exact .err
  · split
    · exact .err
    · refine .ok' ⟨by have := h.many; simp; omega, fun b hb => h.len b (mem_dropLast hb), h.alt, h.br, h.cnt⟩
theorem pushM_keeps {m : PM} (h : m.Good) {b : Bs} : Keeps (pushM b m) := by
  have hm := h.many
  unfold pushM
  split
  · exact .err
  · split
    · exact .err
    · refine .ok' ⟨by simp; omega, fun x hx => ?_, h.alt, h.br, h.cnt⟩
      rcases List.mem_append.1 hx with hx | hx
      · exact h.len x hx
      · rw [List.mem_singleton.1 hx]; omega
theorem verifyM_keeps {m : PM} (h : m.Good) : Keeps (verifyM m) := by
  refine (popM_keeps h).bind fun b m h => ?_
  split
  · exact .ok h
  · exact .err
theorem countM_keeps {m : PM} (h : m.Good) {n : Nat} : Keeps (countM n m) := by
  unfold countM
  split
  · exact .err
  · exact .ok' ⟨h.many, h.len, h.alt, by have := h.br; simp; omega, by simp; omega⟩
theorem takeNums_keeps (n : Nat) : ∀ {m : PM}, m.Good → Keeps (takeNums n m) := by
  induction n with
  | zero => exact fun h => .ok h
  | succ n ih => exact fun h => (numM_keeps h).bind fun _ _ h => (ih h).bind fun _ _ h => .ok h
theorem numbersM_keeps {m : PM} (h : m.Good) {c : UInt8} : Keeps (numbersM c m) := by
  refine (takeNums_keeps _ h).bind fun l m h => ?_
  split
  · exact .err
  · split
    · exact .err
    · exact pushM_keeps h
theorem severalM_keeps {m : PM} (h : m.Good) {n : Nat} : Keeps (severalM n m) := by
  unfold severalM
  split
  · exact .err
  · exact .ok' ⟨by have := h.many; simp [butN]; omega, fun b hb => h.len b (List.mem_of_mem_take hb), h.alt, h.br, h.cnt⟩
theorem upToM_keeps {m : PM} (h : m.Good) {n : Nat} : Keeps (upToM n m) := by
  refine (numM_keeps h).bind fun l m h => ?_
  split
  · exact .err
  · exact .ok h
section
variable {H : Bs → Bs}
theorem multiM_keeps {m : PM} (h : m.Good) {dig : Bs} : Keeps (multiM H dig m) := by
  refine (upToM_keeps h).bind fun _ m h => (countM_keeps h).bind fun _ m h => (severalM_keeps h).bind fun _ m h => (upToM_keeps h).bind fun _ m h => (severalM_keeps h).bind fun _ m h => (popM_keeps h).bind fun _ m h => ?_
  split
  · exact .err
  · exact pushM_keeps h
theorem hashM_keeps {m : PM} (h : m.Good) {c : UInt8} : Keeps (hashM H c m) := (popM_keeps h).bind fun _ _ h => pushM_keeps h
theorem otherM_keeps {m : PM} (h : m.Good) {c : UInt8} {dig : Bs} : Keeps (otherM H dig c m) := by
  unfold otherM
  split
  · exact .ok h
  split
  · exact verifyM_keeps h
  split
  · exact .err
  split
  · exact (popM_keeps h).bind fun _ _ h => (popM_keeps h).bind fun _ _ h => pushM_keeps h
  split
  · exact hashM_keeps h
  split
  · exact (popM_keeps h).bind fun _ _ h => (popM_keeps h).bind fun _ _ h => pushM_keeps h
  split
  · exact multiM_keeps h
  · exact .err
end
theorem numB_short (n : Nat) (h : n ≤ 1000) : (numB n).length ≤ 520 := by have := numB_length n 8 (by omega); omega
theorem mem_lastN {l : List Bs} {n : Nat} {b : Bs} (h : b ∈ lastN l n) : b ∈ l := List.mem_of_mem_drop h
theorem mem_butN {l : List Bs} {n : Nat} {b : Bs} (h : b ∈ butN l n) : b ∈ l := List.mem_of_mem_take h
theorem getD_short {l : List Bs} (h : ∀ b ∈ l, b.length ≤ 520) (i : Nat) : (l.getD i []).length ≤ 520 := by
  rw [List.getD_eq_getElem?_getD]
  by_cases hi : i < l.length
  · rw [List.getElem?_eq_getElem hi]; exact h _ (List.getElem_mem hi)
  · rw [List.getElem?_eq_none (by omega)]; simp
theorem getLastD_short {l : List Bs} (h : ∀ b ∈ l, b.length ≤ 520) : (l.getLastD []).length ≤ 520 := by
  rcases stk_cases l with rfl | ⟨s, b, rfl⟩
  · simp
  · rw [List.getLastD_eq_getLast?]; simpa using h b (by simp)
theorem farS_short {t : Bool} {s s' : List Bs} (h : ∀ b ∈ s, b.length ≤ 520) (hf : farS t s = .ok s') : ∀ b ∈ s', b.length ≤ 520 := by
  unfold farS at hf
  split at hf
  · cases hf
  · split at hf
    · cases hf
    · simp only at hf
      split at hf
      · cases hf
      · cases hf
        have hd : ∀ b ∈ s.dropLast, b.length ≤ 520 := fun b hb => h b (mem_dropLast hb)
        intro b hb
        rcases List.mem_append.1 hb with hb | hb
        · split at hb
          · exact hd b (List.mem_of_mem_eraseIdx hb)
          · exact hd b hb
        · rw [List.mem_singleton.1 hb]; exact getD_short hd _
theorem forall_app {P : Bs → Prop} {a b : List Bs} (h1 : ∀ x ∈ a, P x) (h2 : ∀ x ∈ b, P x) : ∀ x ∈ a ++ b, P x := fun x hx => (List.mem_append.1 hx).elim (h1 x) (h2 x)
theorem doS_short {c : UInt8} {s o s' o' : List Bs} (hs : ∀ b ∈ s, b.length ≤ 520) (ho : ∀ b ∈ o, b.length ≤ 520) (hsl : s.length ≤ 1000) (h : doS c s o = .ok (s', o')) : (∀ b ∈ s', b.length ≤ 520) ∧ ∀ b ∈ o', b.length ≤ 520 := by
  unfold doS at h
  split at h
  · cases h
    refine ⟨forall_app (fun b hb => hs b (mem_butN hb)) fun b hb => ?_, ho⟩
    obtain ⟨i, _, rfl⟩ := List.mem_map.1 hb
    exact getD_short (fun b hb => hs b (mem_lastN hb)) i
  split at h
  · cases h
    exact ⟨fun b hb => hs b (mem_butN hb), forall_app ho fun b hb => hs b (mem_lastN hb)⟩
  split at h
  · split at h
    · cases h
    · cases h
      exact ⟨forall_app hs fun b hb => ho b (mem_lastN hb), fun b hb => ho b (mem_butN hb)⟩
  split at h
  · cases h
    refine ⟨?_, ho⟩
    split
    · exact forall_app hs fun b hb => by rw [List.mem_singleton.1 hb]; exact getLastD_short hs
    · exact hs
  split at h
  · cases h
    exact ⟨forall_app hs fun b hb => by rw [List.mem_singleton.1 hb]; exact numB_short _ hsl, ho⟩
  split at h
  · cases h
    exact ⟨forall_app hs fun b hb => by rw [List.mem_singleton.1 hb]; exact numB_short _ (by have := getLastD_short hs; omega), ho⟩
  split at h
  · cases h
  · rename_i hf
    cases h
    exact ⟨farS_short hs hf, ho⟩
theorem stackM_keeps {m : PM} (h : m.Good) {c : UInt8} : Keeps (stackM c m) := by
  unfold stackM
  cases hd : stackDo c m.stk m.alt with
  | error e => exact .err
  | ok r =>
    obtain ⟨s, o⟩ := r
    simp only
    have hm := h.many
    unfold stackDo at hd
    split at hd
    · cases hd
    · split at hd
      · cases hd
      · split at hd
        · cases hd
        · rename_i hdo
          split at hd
          · cases hd
          · cases hd
            obtain ⟨h1, h2⟩ := doS_short h.len h.alt (by omega) hdo
            exact .ok' ⟨by simp; omega, h1, h2, h.br, h.cnt⟩
section
variable {H : Bs → Bs}
theorem doneM_keeps {m : PM} (h : m.Good) {dig : Bs} {o : OpS} : Keeps (doneM H dig o m) := by
  unfold doneM
  split
  · exact pushM_keeps h
  split
  · exact stackM_keeps h
  split
  · exact numbersM_keeps h
  · exact otherM_keeps h
theorem doM_keeps {m : PM} (h : m.Good) {dig : Bs} {o : OpS} : Keeps (doM H dig o m) := by
  refine (doneM_keeps h).bind fun _ m h => ?_
  split
  · exact verifyM_keeps h
  · exact .ok h
theorem flow_noval {o : OpS} (h : 96 < o.code) : valueB o = none := by
  unfold valueB
  have h' : 96 < o.code.toNat := UInt8.lt_iff_toNat_lt.1 h
  split
  · rfl
  · rw [if_neg, if_neg, if_neg]
    · rintro ⟨_, h2⟩
      have := UInt8.le_iff_toNat_le.1 h2
      simp at this; omega
    · intro e; rw [e] at h'; revert h'; decide
    · intro h2
      have := UInt8.le_iff_toNat_le.1 h2
      simp at this; omega
/-- what counting an operation leaves -/
structure Counted (o : OpS) (m : PM) : Prop where
  good : m.Good
  room : valueB o = none → m.br.length < m.many
theorem countedM_keeps {m m2 : PM} {o : OpS} {u : Unit} (h : m.Good) (hc : countedM o m = .ok (u, m2)) : Counted o m2 ∧ m2.br = m.br ∧ m2.stk = m.stk ∧ m2.alt = m.alt := by
  have hb := h.br
  unfold countedM at hc
  split at hc
  · cases hc
  · split at hc
    · have hg := countM_keeps h (n := 1) _ _ hc
      unfold countM at hc
      split at hc
      · cases hc
      · cases hc; exact ⟨⟨hg, fun _ => by simp; omega⟩, rfl, rfl, rfl⟩
    · rename_i hv
      cases hc; exact ⟨⟨h, fun hn => by rw [hn] at hv; simp at hv⟩, rfl, rfl, rfl⟩
theorem flowM_keeps {m : PM} {o : OpS} (h : Counted o m) : Keeps (flowM o.code m) := by
  have hg := h.good
  unfold flowM
  split
  · rename_i hc
    have hr := h.room (flow_noval (by rcases hc with e | e <;> rw [e] <;> decide))
    split
    · intro a m2 he
      unfold popM at he
      cases hl : m.stk.getLast? with
      | none => rw [hl] at he; cases he
      | some b =>
        rw [hl] at he
        simp only [bindM] at he
        cases he
        exact ⟨by have := hg.many; simp; omega, fun b hb => hg.len b (mem_dropLast hb), hg.alt, by simp; omega, hg.cnt⟩
    · exact .ok' ⟨hg.many, hg.len, hg.alt, by simp; omega, hg.cnt⟩
  split
  · split
    · exact .err
    · rename_i x hx
      have hne : m.br ≠ [] := by rintro e; rw [e] at hx; cases hx
      have hp := List.length_pos_iff.2 hne
      exact .ok' ⟨hg.many, hg.len, hg.alt, by have := hg.br; simp; omega, hg.cnt⟩
  split
  · split
    · exact .err
    · exact .ok' ⟨hg.many, hg.len, hg.alt, by have := hg.br; simp; omega, hg.cnt⟩
  · exact .ok' hg
theorem stepM_keeps {m : PM} (h : m.Good) {dig : Bs} {o : OpS} : Keeps (stepM H dig o m) := by
  unfold stepM
  cases hc : countedM o m with
  | error e => exact .err
  | ok r =>
    obtain ⟨u, m2⟩ := r
    obtain ⟨hcd, _⟩ := countedM_keeps h hc
    refine (flowM_keeps hcd).bind fun b m h => ?_
    split
    · exact .ok h
    · exact doM_keeps h
theorem stepsM_keeps {dig : Bs} (l : List OpS) : ∀ {m : PM}, m.Good → Keeps (stepsM H dig l m) := by
  induction l with
  | nil => exact fun h => .ok h
  | cons o l ih => exact fun h => (stepM_keeps h).bind fun _ _ h => ih h
theorem runM_keeps {m : PM} (h : m.Good) {dig : Bs} {l : List OpS} : Keeps (runM H dig l m) := by
  refine (stepsM_keeps l h).bind fun _ m h => ?_
  split
  · exact .ok h
  · exact .err
end
/-! ### no error is 0 -/
def Errs {α : Type} (r : RM α) : Prop := ∀ c, r = .error c → ¬ c = 0
theorem Errs.err {α : Type} {e : Int} (h : ¬ e = 0) : Errs (α := α) (.error e) := fun _ k => by cases k; exact h
theorem Errs.ok {α : Type} {a : α} {m : PM} : Errs (okM a m) := fun _ e => by cases e
theorem Errs.ok' {α : Type} {a : α × PM} : Errs (α := α) (.ok a) := fun _ e => by cases e
theorem Errs.bind {α β : Type} {x : RM α} {f : α → PM → RM β} (h : Errs x) (hf : ∀ a m, Errs (f a m)) : Errs (bindM x f) := by
  cases x with
  | error e => exact fun c hc => by cases hc; exact h e rfl
  | ok r => obtain ⟨a, m⟩ := r; exact hf a m
theorem popM_errs (m : PM) : Errs (popM m) := by
  unfold popM; split
  · exact .err (by decide)
  · exact .ok'
theorem numM_errs (m : PM) : Errs (numM m) := by
  unfold numM; split
  · exact .err (by decide)
  · split
    · exact .err (by decide)
    · exact .ok'
theorem pushM_errs (b : Bs) (m : PM) : Errs (pushM b m) := by
  unfold pushM; split
  · exact .err (by decide)
  · split
    · exact .err (by decide)
    · exact .ok'
theorem verifyM_errs (m : PM) : Errs (verifyM m) := (popM_errs m).bind fun b m => by
  split
  · exact .ok
  · exact .err (by decide)
theorem countM_errs (n : Nat) (m : PM) : Errs (countM n m) := by
  unfold countM; split
  · exact .err (by decide)
  · exact .ok'
theorem takeNums_errs (n : Nat) : ∀ m : PM, Errs (takeNums n m) := by
  induction n with
  | zero => exact fun m => .ok
  | succ n ih => exact fun m => (numM_errs m).bind fun _ m => (ih m).bind fun _ _ => .ok
theorem numbersM_errs (c : UInt8) (m : PM) : Errs (numbersM c m) := by
  refine (takeNums_errs _ m).bind fun l m => ?_
  split
  · exact .err (by decide)
  · split
    · exact .err (by decide)
    · exact pushM_errs _ _
theorem severalM_errs (n : Nat) (m : PM) : Errs (severalM n m) := by
  unfold severalM; split
  · exact .err (by decide)
  · exact .ok'
theorem upToM_errs (n : Nat) (m : PM) : Errs (upToM n m) := (numM_errs m).bind fun _ m => by
  split
  · exact .err (by decide)
  · exact .ok
theorem stackDo_err0 {c : UInt8} {s o : List Bs} {e : Int} (h : stackDo c s o = .error e) : ¬ e = 0 := by
  unfold stackDo at h
  split at h
  · cases h; decide
  · split at h
    · cases h; decide
    · split at h
      · rename_i hd
        cases h
        rcases doS_err hd with rfl | rfl <;> decide
      · split at h
        · cases h; decide
        · cases h
theorem stackM_errs (c : UInt8) (m : PM) : Errs (stackM c m) := by
  unfold stackM
  cases hd : stackDo c m.stk m.alt with
  | error e => exact .err (stackDo_err0 hd)
  | ok r => exact .ok'
theorem flowM_errs (c : UInt8) (m : PM) : Errs (flowM c m) := by
  unfold flowM
  split
  · split
    · exact (popM_errs m).bind fun _ _ => .ok'
    · exact .ok'
  split
  · split
    · exact .err (by decide)
    · exact .ok'
  split
  · split
    · exact .err (by decide)
    · exact .ok'
  · exact .ok'
theorem countedM_errs (o : OpS) (m : PM) : Errs (countedM o m) := by
  unfold countedM
  split
  · exact .err (by decide)
  · split
    · exact countM_errs _ _
    · exact .ok
section
variable {H : Bs → Bs}
theorem multiM_errs (dig : Bs) (m : PM) : Errs (multiM H dig m) := by
  refine (upToM_errs _ m).bind fun _ m => (countM_errs _ m).bind fun _ m => (severalM_errs _ m).bind fun _ m => (upToM_errs _ m).bind fun _ m => (severalM_errs _ m).bind fun _ m => (popM_errs m).bind fun _ m => ?_
  split
  · exact .err (by decide)
  · exact pushM_errs _ _
theorem otherM_errs (dig : Bs) (c : UInt8) (m : PM) : Errs (otherM H dig c m) := by
  unfold otherM
  split
  · exact .ok
  split
  · exact verifyM_errs m
  split
  · exact .err (by decide)
  split
  · exact (popM_errs m).bind fun _ m => (popM_errs m).bind fun _ _ => pushM_errs _ _
  split
  · exact (popM_errs m).bind fun _ _ => pushM_errs _ _
  split
  · exact (popM_errs m).bind fun _ m => (popM_errs m).bind fun _ _ => pushM_errs _ _
  split
  · exact multiM_errs dig m
  · exact .err (by decide)
theorem doneM_errs (dig : Bs) (o : OpS) (m : PM) : Errs (doneM H dig o m) := by
  unfold doneM
  split
  · exact pushM_errs _ _
  split
  · exact stackM_errs _ _
  split
  · exact numbersM_errs _ _
  · exact otherM_errs _ _ _
theorem doM_errs (dig : Bs) (o : OpS) (m : PM) : Errs (doM H dig o m) := by
  refine (doneM_errs dig o m).bind fun _ m => ?_
  split
  · exact verifyM_errs m
  · exact .ok
theorem stepM_errs (dig : Bs) (o : OpS) (m : PM) : Errs (stepM H dig o m) := by
  refine (countedM_errs o m).bind fun _ m => (flowM_errs _ m).bind fun _ m => ?_
  split
  · exact .ok
  · exact doM_errs dig o m
theorem stepsM_errs (dig : Bs) (l : List OpS) : ∀ m : PM, Errs (stepsM H dig l m) := by
  induction l with
  | nil => exact fun m => .ok
  | cons o l ih => exact fun m => (stepM_errs dig o m).bind fun _ m => ih m
theorem runM_errs (dig : Bs) (l : List OpS) (m : PM) : Errs (runM H dig l m) := by
  refine (stepsM_errs dig l m).bind fun _ m => ?_
  split
  · exact .ok
  · exact .err (by decide)
end
end Go.Proofs.YtmlgieclkedomaaGreat

namespace Go.Proofs.YtmlgieclkedomaaGreat
open Go Go.RowKit
attribute [local irreducible] shaH

theorem stackDo_err {c : UInt8} {s o : List Bs} {e : Int} (h : stackDo c s o = .error e) : ¬ e = 0 := by
  unfold stackDo at h
  split at h
  · cases h; decide
  · split at h
    · cases h; decide
    · split at h
      · rename_i hd
        cases h
        rcases doS_err hd with rfl | rfl <;> decide
      · split at h
        · cases h; decide
        · cases h
theorem arityN_le (c : UInt8) : arityN c ≤ 3 := by
  unfold arityN
  repeat' split
  all_goals decide
set_option maxRecDepth 10000 in
set_option maxHeartbeats 4000000 in
theorem do_mach_spec {I : Imm} {w : World} {mb sp : Nat} {dig : Bs} {m : PM} {L : List Item} (hin : Init I L w) (h : MachAt I mb sp dig m L) (hd : dig.length = 32) (hg : m.Good) {o : OpS} {vs : List Value} (ho : OpAt I o vs) (hol : o.data.length ≤ 520) :
    Calls Tryz.prog 93 #[.pointer (some ⟨mb, 0, none⟩), .agg vs.toArray] w (RPost anyR L I w mb sp dig (doM shaH dig o m)) := by
  have hS := hin.nx
  have hm := hg.ok
  obtain ⟨R, hR⟩ : ∃ R, R = doM shaH dig o m := ⟨_, rfl⟩
  rw [← hR]
  obtain ⟨oa, oc, rfl, hrdo⟩ := ho
  have hval := fun {J : Imm} {w : World} (hle : I.Le J) (hJ : J.Holds w) => Value_spec (o := o) (vs := [bv o.code, .slice oa o.data.length oc]) hJ ⟨oa, oc, rfl, hrdo.mono hle⟩ (by omega)
  unfold ValuePost at hval
  unfold doM at hR
  have hkeep := doneM_keeps (H := shaH) hg (dig := dig) (o := o)
  unfold doneM at hR hkeep
  cases hv : valueB o with
  | some b =>
    rw [hv] at hval hR hkeep
    simp only at hR hkeep
    have hbl : b.length ≤ 1000 := by
      unfold valueB at hv
      split at hv
      · cases hv
      · split at hv
        · cases hv; omega
        · split at hv
          · cases hv; decide
          · split at hv
            · cases hv; simp
            · cases hv
    have hpush := fun {J : Imm} {w : World} {L : List Item} (hin : Init J L w) (h : MachAt J mb sp dig m L) {v : Value} (hv : RdB J v b) => mpush_spec (dig := dig) hin h hm hv (by omega)
    unfold RPost at hpush
    clear hv
    cases hr : pushM b m with
    | error e0 =>
      rw [hr] at hpush hR
      simp only [bindM] at hR
      rw [hR]
      clear hR
      go_enter Tryz.func93, Tryz.ntmps93
      go_wp2_with (first | ((with_reducible refine gL_box ?_); (refine sL_box hS rfl _ _ rfl _ (by go_simp; first | exact rfl | exact ⟨rfl, rfl⟩) ?_; clear hS; intro b3 w' hb3 hS)) | ((with_reducible refine gL_load ?_); first | (refine sL_load hS rfl _ _ rfl _ _ rfl 0 _ _ rfl _ rfl ?_) | (refine sL_loadA hS rfl _ _ rfl _ _ rfl 0 _ _ rfl _ rfl rfl ?_)) | (go_at_call 75; refine (hval (Imm.Le.refl _) hS.hI).mono ?_; rintro e w' ⟨J, ra, rc, rfl, hrd, hn⟩; have hle := hn.le hS.hI; replace hS := hS.pure0 hn; clear hn) | (go_at_call 109; refine (hpush (Init.right (L := [_]) hS.toInit) (h.mono hle) hrd).mono ?_; rintro e w' ⟨rfl, J8, L8, hn⟩; replace hS := Nx.callTail (L2 := [_]) hS hn; clear hn))
      exact ⟨rfl, rfl, J8, _, hS⟩
    | ok r0 =>
      obtain ⟨u, m2⟩ := r0
      have hm2 := (hkeep _ _ hr).ok
      rw [hr] at hpush hR
      simp only [bindM] at hR
      clear hr hkeep
      cases hver : verifiedB o.code with
      | false =>
        simp only [hver, Bool.false_eq_true, if_false] at hR
        rw [hR]
        clear hR
        go_enter Tryz.func93, Tryz.ntmps93
        go_wp2_with (first | ((with_reducible refine gL_box ?_); (refine sL_box hS rfl _ _ rfl _ (by go_simp; first | exact rfl | exact ⟨rfl, rfl⟩) ?_; clear hS; intro b3 w' hb3 hS)) | ((with_reducible refine gL_load ?_); first | (refine sL_load hS rfl _ _ rfl _ _ rfl 0 _ _ rfl _ rfl ?_) | (refine sL_loadA hS rfl _ _ rfl _ _ rfl 0 _ _ rfl _ rfl rfl ?_)) | (go_at_call 75; refine (hval (Imm.Le.refl _) hS.hI).mono ?_; rintro e w' ⟨J, ra, rc, rfl, hrd, hn⟩; have hle := hn.le hS.hI; replace hS := hS.pure0 hn; clear hn) | (go_at_call 109; refine (hpush (Init.right (L := [_]) hS.toInit) (h.mono hle) hrd).mono ?_; rintro e w' ⟨J8, L8, v8, rfl, _, hn, hma⟩; replace hS := Nx.callTail (L2 := [_]) hS hn; clear hn; refine Stop.of ?_))
        refine Stop.to ?_
        go_wp2_with (first | ((with_reducible refine gL_load ?_); first | (refine sL_load hS rfl _ _ rfl _ _ rfl 0 _ _ rfl _ rfl ?_) | (refine sL_loadA hS rfl _ _ rfl _ _ rfl 0 _ _ rfl _ rfl rfl ?_)) | (go_at_call 115; refine (verified_spec).mono ?_; rintro e w' ⟨rfl, rfl⟩; rw [hver]))
        exact bodyPost_end (results_none rfl _ _ _) rfl ⟨_, _, _, rfl, trivial, hS.drop, hma⟩
      | true =>
        simp only [hver, if_true] at hR
        have hvf := fun {J : Imm} {w : World} {L : List Item} (hin : Init J L w) (h : MachAt J mb sp dig m2 L) => verify_spec (dig := dig) hin h hm2
        unfold RPost at hvf
        rw [← hR] at hvf
        clear hR
        cases R with
        | error e9 =>
          go_enter Tryz.func93, Tryz.ntmps93
          go_wp2_with (first | ((with_reducible refine gL_box ?_); (refine sL_box hS rfl _ _ rfl _ (by go_simp; first | exact rfl | exact ⟨rfl, rfl⟩) ?_; clear hS; intro b3 w' hb3 hS)) | ((with_reducible refine gL_load ?_); first | (refine sL_load hS rfl _ _ rfl _ _ rfl 0 _ _ rfl _ rfl ?_) | (refine sL_loadA hS rfl _ _ rfl _ _ rfl 0 _ _ rfl _ rfl rfl ?_)) | (go_at_call 75; refine (hval (Imm.Le.refl _) hS.hI).mono ?_; rintro e w' ⟨J, ra, rc, rfl, hrd, hn⟩; have hle := hn.le hS.hI; replace hS := hS.pure0 hn; clear hn) | (go_at_call 109; refine (hpush (Init.right (L := [_]) hS.toInit) (h.mono hle) hrd).mono ?_; rintro e w' ⟨J8, L8, v8, rfl, _, hn, hma⟩; replace hS := Nx.callTail (L2 := [_]) hS hn; clear hn; refine Stop.of ?_))
          refine Stop.to ?_
          go_wp2_with (first | ((with_reducible refine gL_load ?_); first | (refine sL_load hS rfl _ _ rfl _ _ rfl 0 _ _ rfl _ rfl ?_) | (refine sL_loadA hS rfl _ _ rfl _ _ rfl 0 _ _ rfl _ rfl rfl ?_)) | (go_at_call 115; refine (verified_spec).mono ?_; rintro e w' ⟨rfl, rfl⟩; rw [hver]) | (go_at_call 116; refine (hvf (Init.right (L := [_]) hS.toInit) hma).mono ?_; rintro e w' ⟨rfl, J9, L9, hn⟩; replace hS := Nx.callTail (L2 := [_]) hS hn; clear hn))
          exact ⟨rfl, rfl, J9, _, hS⟩
        | ok r9 =>
          go_enter Tryz.func93, Tryz.ntmps93
          go_wp2_with (first | ((with_reducible refine gL_box ?_); (refine sL_box hS rfl _ _ rfl _ (by go_simp; first | exact rfl | exact ⟨rfl, rfl⟩) ?_; clear hS; intro b3 w' hb3 hS)) | ((with_reducible refine gL_load ?_); first | (refine sL_load hS rfl _ _ rfl _ _ rfl 0 _ _ rfl _ rfl ?_) | (refine sL_loadA hS rfl _ _ rfl _ _ rfl 0 _ _ rfl _ rfl rfl ?_)) | (go_at_call 75; refine (hval (Imm.Le.refl _) hS.hI).mono ?_; rintro e w' ⟨J, ra, rc, rfl, hrd, hn⟩; have hle := hn.le hS.hI; replace hS := hS.pure0 hn; clear hn) | (go_at_call 109; refine (hpush (Init.right (L := [_]) hS.toInit) (h.mono hle) hrd).mono ?_; rintro e w' ⟨J8, L8, v8, rfl, _, hn, hma⟩; replace hS := Nx.callTail (L2 := [_]) hS hn; clear hn; refine Stop.of ?_))
          refine Stop.to ?_
          go_wp2_with (first | ((with_reducible refine gL_load ?_); first | (refine sL_load hS rfl _ _ rfl _ _ rfl 0 _ _ rfl _ rfl ?_) | (refine sL_loadA hS rfl _ _ rfl _ _ rfl 0 _ _ rfl _ rfl rfl ?_)) | (go_at_call 115; refine (verified_spec).mono ?_; rintro e w' ⟨rfl, rfl⟩; rw [hver]) | (go_at_call 116; refine (hvf (Init.right (L := [_]) hS.toInit) hma).mono ?_; rintro e w' ⟨J9, L9, v9, rfl, _, hn, hma9⟩; replace hS := Nx.callTail (L2 := [_]) hS hn; clear hn))
          exact bodyPost_end (results_none rfl _ _ _) rfl ⟨J9, L9, _, rfl, trivial, hS.drop, hma9⟩
  | none =>
    rw [hv] at hval hR hkeep
    simp only at hR hkeep
    clear hv
    cases hdoes : (leastN o.code).isSome with
    | true =>
      simp only [hdoes, if_true] at hR hkeep
      have hdo := fun {J : Imm} {w : World} {L : List Item} (hin : Init J L w) (h : StkAt J sp m.stk m.alt L) => Do_spec (c := o.code) hin h (by have := hm.many; omega) (fun b hb => by have := hm.len b hb; omega)
      unfold StkDoPost at hdo
      unfold stackM at hR hkeep
      cases hr : stackDo o.code m.stk m.alt with
      | error e0 =>
        have hne := stackDo_err hr
        rw [hr] at hdo hR
        simp only [bindM] at hR
        rw [hR]
        clear hR hkeep hr
        go_enter Tryz.func93, Tryz.ntmps93
        go_wp2_with (first | ((with_reducible refine gL_box ?_); (refine sL_box hS rfl _ _ rfl _ (by go_simp; first | exact rfl | exact ⟨rfl, rfl⟩) ?_; clear hS; intro b3 w' hb3 hS)) | ((with_reducible refine gL_load ?_); first | (refine sL_load hS rfl _ _ rfl _ _ rfl 0 _ _ rfl _ rfl ?_) | (refine sL_loadA hS rfl _ _ rfl _ _ rfl 0 _ _ rfl _ rfl rfl ?_)) | (go_at_call 75; refine (hval (Imm.Le.refl _) hS.hI).mono ?_; rintro e w' ⟨rfl, J, hn⟩; have hle := hn.le hS.hI; replace hS := hS.pure0 hn; clear hn) | (go_at_call 110; refine (Does_spec).mono ?_; rintro e w' ⟨rfl, rfl⟩; rw [hdoes]))
        obtain ⟨ba, bc, L3, rfl, hst⟩ := h.mono hle
        replace hS := hS.drew
        refine rg_start (fun w => w.cell? ⟨mb, 0, none⟩ = some (.pointer (some ⟨sp, 0, none⟩)) ∧ w.cell? ⟨b3, 0, none⟩ = some (bv o.code)) [5, 7] (by kernel_rfl) ?_
        -- P0 P1 P2 P4 L3 L5 S6 S7
        (refine rg_pure (v := ?v0u1) 0 rfl (by kernel_rfl) (fun _ _ _ h => h) rfl ?hy0u1 ?rest0u1; (case hy0u1 => (intro w; go_simp; try with_reducible rfl)); (try simp only [Act.put, List.setIfInBounds_toArray, List.set_cons_zero, List.set_cons_succ]))
        (refine rg_pure (v := ?v1u1) 1 rfl (by kernel_rfl) (fun _ _ _ h => h) rfl ?hy1u1 ?rest1u1; (case hy1u1 => (intro w; go_simp; try with_reducible rfl)); (try simp only [Act.put, List.setIfInBounds_toArray, List.set_cons_zero, List.set_cons_succ]))
        (refine rg_pure (v := ?v2u1) 2 rfl (by kernel_rfl) (fun _ _ _ h => h) rfl ?hy2u1 ?rest2u1; (case hy2u1 => (intro w; go_simp; try with_reducible rfl)); (try simp only [Act.put, List.setIfInBounds_toArray, List.set_cons_zero, List.set_cons_succ]))
        (refine rg_pure (v := ?v4u1) 4 rfl (by kernel_rfl) (fun _ _ _ h => h) rfl ?hy4u1 ?rest4u1; (case hy4u1 => (intro w; go_simp; try with_reducible rfl)); (try simp only [Act.put, List.setIfInBounds_toArray, List.set_cons_zero, List.set_cons_succ]))
        ((first | (refine rg_load 3 rfl (by kernel_rfl) rfl (by exact ⟨hS.blkCell 1 rfl 0 rfl, hS.blkCell 0 rfl 0 rfl⟩) _ _ rfl _ _ rfl _ (fun w hS => hS.1) (fun _ _ _ h => h) ?_) | (refine rg_load 3 rfl (by kernel_rfl) rfl (by exact ⟨hS.blkCell 1 rfl 0 rfl, hS.blkCell 0 rfl 0 rfl⟩) _ _ rfl _ _ rfl _ (fun w hS => hS.2) (fun _ _ _ h => h) ?_)); (try simp only [Act.put, List.setIfInBounds_toArray, List.set_cons_zero, List.set_cons_succ]))
        ((first | (refine rg_load 5 rfl (by kernel_rfl) rfl (by exact ⟨hS.blkCell 1 rfl 0 rfl, hS.blkCell 0 rfl 0 rfl⟩) _ _ rfl _ _ rfl _ (fun w hS => hS.1) (fun _ _ _ h => h) ?_) | (refine rg_load 5 rfl (by kernel_rfl) rfl (by exact ⟨hS.blkCell 1 rfl 0 rfl, hS.blkCell 0 rfl 0 rfl⟩) _ _ rfl _ _ rfl _ (fun w hS => hS.2) (fun _ _ _ h => h) ?_)); (try simp only [Act.put, List.setIfInBounds_toArray, List.set_cons_zero, List.set_cons_succ]))
        refine rg_step 6 rfl (by kernel_rfl) (fun K' hK => ?_)
        go_wp2_with (first | (go_at_call 111; refine (hdo (Init.right (L := [_, _, _]) hS.toInit) hst).mono ?_; rintro e w' ⟨rfl, J8, hn⟩; replace hS := Nx.callTail (L2 := [_, _, _]) hS hn; clear hn))
        (try with_reducible refine rg_back ?_); refine hK.out _ _ (fun h => absurd h (by decide)) ?_; clear hK; clear K'
        refine rg_step 7 rfl (by kernel_rfl) (fun K' hK => ?_)
        go_wp2_with (first | (go_at_call 94; refine (fail_spec hne).mono ?_; rintro e w' ⟨rfl, rfl⟩))
        exact ⟨rfl, rfl, J8, _, hS⟩
      | ok r0 =>
        obtain ⟨s', o'⟩ := r0
        rw [hr] at hdo hR hkeep
        simp only [bindM] at hR
        obtain ⟨m2, hm2e⟩ : ∃ m2 : PM, m2 = { m with stk := s', alt := o' } := ⟨_, rfl⟩
        have hm2 := (hkeep _ _ rfl).ok
        rw [← hm2e] at hm2 hR
        have Hm2 := Lib.hid hm2e
        clear hr hkeep hm2e
        cases hver : verifiedB o.code with
        | false =>
          simp only [hver, Bool.false_eq_true, if_false] at hR
          rw [hR]
          clear hR
          go_enter Tryz.func93, Tryz.ntmps93
          go_wp2_with (first | ((with_reducible refine gL_box ?_); (refine sL_box hS rfl _ _ rfl _ (by go_simp; first | exact rfl | exact ⟨rfl, rfl⟩) ?_; clear hS; intro b3 w' hb3 hS)) | ((with_reducible refine gL_load ?_); first | (refine sL_load hS rfl _ _ rfl _ _ rfl 0 _ _ rfl _ rfl ?_) | (refine sL_loadA hS rfl _ _ rfl _ _ rfl 0 _ _ rfl _ rfl rfl ?_)) | (go_at_call 75; refine (hval (Imm.Le.refl _) hS.hI).mono ?_; rintro e w' ⟨rfl, J, hn⟩; have hle := hn.le hS.hI; replace hS := hS.pure0 hn; clear hn) | (go_at_call 110; refine (Does_spec).mono ?_; rintro e w' ⟨rfl, rfl⟩; rw [hdoes]))
          obtain ⟨ba, bc, L3, rfl, hst⟩ := h.mono hle
          replace hS := hS.drew
          refine rg_start (fun w => w.cell? ⟨mb, 0, none⟩ = some (.pointer (some ⟨sp, 0, none⟩)) ∧ w.cell? ⟨b3, 0, none⟩ = some (bv o.code)) [5, 7] (by kernel_rfl) ?_
          -- P0 P1 P2 P4 L3 L5 S6 S7
          (refine rg_pure (v := ?v0u2) 0 rfl (by kernel_rfl) (fun _ _ _ h => h) rfl ?hy0u2 ?rest0u2; (case hy0u2 => (intro w; go_simp; try with_reducible rfl)); (try simp only [Act.put, List.setIfInBounds_toArray, List.set_cons_zero, List.set_cons_succ]))
          (refine rg_pure (v := ?v1u2) 1 rfl (by kernel_rfl) (fun _ _ _ h => h) rfl ?hy1u2 ?rest1u2; (case hy1u2 => (intro w; go_simp; try with_reducible rfl)); (try simp only [Act.put, List.setIfInBounds_toArray, List.set_cons_zero, List.set_cons_succ]))
          (refine rg_pure (v := ?v2u2) 2 rfl (by kernel_rfl) (fun _ _ _ h => h) rfl ?hy2u2 ?rest2u2; (case hy2u2 => (intro w; go_simp; try with_reducible rfl)); (try simp only [Act.put, List.setIfInBounds_toArray, List.set_cons_zero, List.set_cons_succ]))
          (refine rg_pure (v := ?v4u2) 4 rfl (by kernel_rfl) (fun _ _ _ h => h) rfl ?hy4u2 ?rest4u2; (case hy4u2 => (intro w; go_simp; try with_reducible rfl)); (try simp only [Act.put, List.setIfInBounds_toArray, List.set_cons_zero, List.set_cons_succ]))
          ((first | (refine rg_load 3 rfl (by kernel_rfl) rfl (by exact ⟨hS.blkCell 1 rfl 0 rfl, hS.blkCell 0 rfl 0 rfl⟩) _ _ rfl _ _ rfl _ (fun w hS => hS.1) (fun _ _ _ h => h) ?_) | (refine rg_load 3 rfl (by kernel_rfl) rfl (by exact ⟨hS.blkCell 1 rfl 0 rfl, hS.blkCell 0 rfl 0 rfl⟩) _ _ rfl _ _ rfl _ (fun w hS => hS.2) (fun _ _ _ h => h) ?_)); (try simp only [Act.put, List.setIfInBounds_toArray, List.set_cons_zero, List.set_cons_succ]))
          ((first | (refine rg_load 5 rfl (by kernel_rfl) rfl (by exact ⟨hS.blkCell 1 rfl 0 rfl, hS.blkCell 0 rfl 0 rfl⟩) _ _ rfl _ _ rfl _ (fun w hS => hS.1) (fun _ _ _ h => h) ?_) | (refine rg_load 5 rfl (by kernel_rfl) rfl (by exact ⟨hS.blkCell 1 rfl 0 rfl, hS.blkCell 0 rfl 0 rfl⟩) _ _ rfl _ _ rfl _ (fun w hS => hS.2) (fun _ _ _ h => h) ?_)); (try simp only [Act.put, List.setIfInBounds_toArray, List.set_cons_zero, List.set_cons_succ]))
          (refine rg_step 6 rfl (by kernel_rfl) (fun K' hK => ?_); go_wp2_with (first | (go_at_call 111; refine (hdo (Init.right (L := [_, _, _]) hS.toInit) hst).mono ?_; rintro e w' ⟨rfl, J8, L8, hn, hst8⟩; replace hS := Nx.callTail (L2 := [_, _, _]) hS hn; clear hn) | (go_at_call 94; refine (failNo_spec).mono ?_; rintro e w' ⟨⟨_, rfl⟩, rfl⟩)); (try with_reducible refine rg_back ?_); refine hK.out _ _ (fun h => absurd h (by decide)) ?_; clear hK; clear K'; (try simp only [Act.put, List.setIfInBounds_toArray, List.set_cons_zero, List.set_cons_succ]))
          (refine rg_step 7 rfl (by kernel_rfl) (fun K' hK => ?_); go_wp2_with (first | (go_at_call 111; refine (hdo (Init.right (L := [_, _, _]) hS.toInit) hst).mono ?_; rintro e w' ⟨rfl, J8, L8, hn, hst8⟩; replace hS := Nx.callTail (L2 := [_, _, _]) hS hn; clear hn) | (go_at_call 94; refine (failNo_spec).mono ?_; rintro e w' ⟨⟨_, rfl⟩, rfl⟩)); (try with_reducible refine rg_back ?_); refine hK.out _ _ (fun _ => by exact ⟨hS.blkCell 1 rfl 0 rfl, hS.blkCell 0 rfl 0 rfl⟩) ?_; clear hK; clear K'; (try simp only [Act.put, List.setIfInBounds_toArray, List.set_cons_zero, List.set_cons_succ]))
          refine rg_done (by kernel_rfl) ?_
          simp only [List.cons_append, List.nil_append] at hS
          have hma : MachAt J8 mb sp dig m2 (machI mb sp dig ba m.br.length bc m.many :: .row 1 174 (.slice ba m.br.length bc) m.br.length (brV m.br) :: L8) := by rw [Hm2.out]; exact ⟨ba, bc, L8, rfl, hst8⟩
          go_wp2_with (first | ((with_reducible refine gL_load ?_); first | (refine sL_load hS rfl _ _ rfl _ _ rfl 0 _ _ rfl _ rfl ?_) | (refine sL_loadA hS rfl _ _ rfl _ _ rfl 0 _ _ rfl _ rfl rfl ?_)) | (go_at_call 115; refine (verified_spec).mono ?_; rintro e w' ⟨rfl, rfl⟩; rw [hver]))
          exact bodyPost_end (results_none rfl _ _ _) rfl ⟨_, _, _, rfl, trivial, hS.drop, hma⟩
        | true =>
          simp only [hver, if_true] at hR
          have hvf := fun {J : Imm} {w : World} {L : List Item} (hin : Init J L w) (h : MachAt J mb sp dig m2 L) => verify_spec (dig := dig) hin h hm2
          unfold RPost at hvf
          rw [← hR] at hvf
          clear hR
          cases R with
          | error e9 =>
            go_enter Tryz.func93, Tryz.ntmps93
            go_wp2_with (first | ((with_reducible refine gL_box ?_); (refine sL_box hS rfl _ _ rfl _ (by go_simp; first | exact rfl | exact ⟨rfl, rfl⟩) ?_; clear hS; intro b3 w' hb3 hS)) | ((with_reducible refine gL_load ?_); first | (refine sL_load hS rfl _ _ rfl _ _ rfl 0 _ _ rfl _ rfl ?_) | (refine sL_loadA hS rfl _ _ rfl _ _ rfl 0 _ _ rfl _ rfl rfl ?_)) | (go_at_call 75; refine (hval (Imm.Le.refl _) hS.hI).mono ?_; rintro e w' ⟨rfl, J, hn⟩; have hle := hn.le hS.hI; replace hS := hS.pure0 hn; clear hn) | (go_at_call 110; refine (Does_spec).mono ?_; rintro e w' ⟨rfl, rfl⟩; rw [hdoes]))
            obtain ⟨ba, bc, L3, rfl, hst⟩ := h.mono hle
            replace hS := hS.drew
            refine rg_start (fun w => w.cell? ⟨mb, 0, none⟩ = some (.pointer (some ⟨sp, 0, none⟩)) ∧ w.cell? ⟨b3, 0, none⟩ = some (bv o.code)) [5, 7] (by kernel_rfl) ?_
            -- P0 P1 P2 P4 L3 L5 S6 S7
            (refine rg_pure (v := ?v0u3) 0 rfl (by kernel_rfl) (fun _ _ _ h => h) rfl ?hy0u3 ?rest0u3; (case hy0u3 => (intro w; go_simp; try with_reducible rfl)); (try simp only [Act.put, List.setIfInBounds_toArray, List.set_cons_zero, List.set_cons_succ]))
            (refine rg_pure (v := ?v1u3) 1 rfl (by kernel_rfl) (fun _ _ _ h => h) rfl ?hy1u3 ?rest1u3; (case hy1u3 => (intro w; go_simp; try with_reducible rfl)); (try simp only [Act.put, List.setIfInBounds_toArray, List.set_cons_zero, List.set_cons_succ]))
            (refine rg_pure (v := ?v2u3) 2 rfl (by kernel_rfl) (fun _ _ _ h => h) rfl ?hy2u3 ?rest2u3; (case hy2u3 => (intro w; go_simp; try with_reducible rfl)); (try simp only [Act.put, List.setIfInBounds_toArray, List.set_cons_zero, List.set_cons_succ]))
            (refine rg_pure (v := ?v4u3) 4 rfl (by kernel_rfl) (fun _ _ _ h => h) rfl ?hy4u3 ?rest4u3; (case hy4u3 => (intro w; go_simp; try with_reducible rfl)); (try simp only [Act.put, List.setIfInBounds_toArray, List.set_cons_zero, List.set_cons_succ]))
            ((first | (refine rg_load 3 rfl (by kernel_rfl) rfl (by exact ⟨hS.blkCell 1 rfl 0 rfl, hS.blkCell 0 rfl 0 rfl⟩) _ _ rfl _ _ rfl _ (fun w hS => hS.1) (fun _ _ _ h => h) ?_) | (refine rg_load 3 rfl (by kernel_rfl) rfl (by exact ⟨hS.blkCell 1 rfl 0 rfl, hS.blkCell 0 rfl 0 rfl⟩) _ _ rfl _ _ rfl _ (fun w hS => hS.2) (fun _ _ _ h => h) ?_)); (try simp only [Act.put, List.setIfInBounds_toArray, List.set_cons_zero, List.set_cons_succ]))
            ((first | (refine rg_load 5 rfl (by kernel_rfl) rfl (by exact ⟨hS.blkCell 1 rfl 0 rfl, hS.blkCell 0 rfl 0 rfl⟩) _ _ rfl _ _ rfl _ (fun w hS => hS.1) (fun _ _ _ h => h) ?_) | (refine rg_load 5 rfl (by kernel_rfl) rfl (by exact ⟨hS.blkCell 1 rfl 0 rfl, hS.blkCell 0 rfl 0 rfl⟩) _ _ rfl _ _ rfl _ (fun w hS => hS.2) (fun _ _ _ h => h) ?_)); (try simp only [Act.put, List.setIfInBounds_toArray, List.set_cons_zero, List.set_cons_succ]))
            (refine rg_step 6 rfl (by kernel_rfl) (fun K' hK => ?_); go_wp2_with (first | (go_at_call 111; refine (hdo (Init.right (L := [_, _, _]) hS.toInit) hst).mono ?_; rintro e w' ⟨rfl, J8, L8, hn, hst8⟩; replace hS := Nx.callTail (L2 := [_, _, _]) hS hn; clear hn) | (go_at_call 94; refine (failNo_spec).mono ?_; rintro e w' ⟨⟨_, rfl⟩, rfl⟩)); (try with_reducible refine rg_back ?_); refine hK.out _ _ (fun h => absurd h (by decide)) ?_; clear hK; clear K'; (try simp only [Act.put, List.setIfInBounds_toArray, List.set_cons_zero, List.set_cons_succ]))
            (refine rg_step 7 rfl (by kernel_rfl) (fun K' hK => ?_); go_wp2_with (first | (go_at_call 111; refine (hdo (Init.right (L := [_, _, _]) hS.toInit) hst).mono ?_; rintro e w' ⟨rfl, J8, L8, hn, hst8⟩; replace hS := Nx.callTail (L2 := [_, _, _]) hS hn; clear hn) | (go_at_call 94; refine (failNo_spec).mono ?_; rintro e w' ⟨⟨_, rfl⟩, rfl⟩)); (try with_reducible refine rg_back ?_); refine hK.out _ _ (fun _ => by exact ⟨hS.blkCell 1 rfl 0 rfl, hS.blkCell 0 rfl 0 rfl⟩) ?_; clear hK; clear K'; (try simp only [Act.put, List.setIfInBounds_toArray, List.set_cons_zero, List.set_cons_succ]))
            refine rg_done (by kernel_rfl) ?_
            simp only [List.cons_append, List.nil_append] at hS
            have hma : MachAt J8 mb sp dig m2 (machI mb sp dig ba m.br.length bc m.many :: .row 1 174 (.slice ba m.br.length bc) m.br.length (brV m.br) :: L8) := by rw [Hm2.out]; exact ⟨ba, bc, L8, rfl, hst8⟩
            go_wp2_with (first | ((with_reducible refine gL_load ?_); first | (refine sL_load hS rfl _ _ rfl _ _ rfl 0 _ _ rfl _ rfl ?_) | (refine sL_loadA hS rfl _ _ rfl _ _ rfl 0 _ _ rfl _ rfl rfl ?_)) | (go_at_call 115; refine (verified_spec).mono ?_; rintro e w' ⟨rfl, rfl⟩; rw [hver]) | (go_at_call 116; refine (hvf (Init.right (L := [_]) hS.toInit) hma).mono ?_; rintro e w' ⟨rfl, J9, L9, hn⟩; replace hS := Nx.callTail (L2 := [_]) hS hn; clear hn))
            exact ⟨rfl, rfl, J9, _, hS⟩
          | ok r9 =>
            go_enter Tryz.func93, Tryz.ntmps93
            go_wp2_with (first | ((with_reducible refine gL_box ?_); (refine sL_box hS rfl _ _ rfl _ (by go_simp; first | exact rfl | exact ⟨rfl, rfl⟩) ?_; clear hS; intro b3 w' hb3 hS)) | ((with_reducible refine gL_load ?_); first | (refine sL_load hS rfl _ _ rfl _ _ rfl 0 _ _ rfl _ rfl ?_) | (refine sL_loadA hS rfl _ _ rfl _ _ rfl 0 _ _ rfl _ rfl rfl ?_)) | (go_at_call 75; refine (hval (Imm.Le.refl _) hS.hI).mono ?_; rintro e w' ⟨rfl, J, hn⟩; have hle := hn.le hS.hI; replace hS := hS.pure0 hn; clear hn) | (go_at_call 110; refine (Does_spec).mono ?_; rintro e w' ⟨rfl, rfl⟩; rw [hdoes]))
            obtain ⟨ba, bc, L3, rfl, hst⟩ := h.mono hle
            replace hS := hS.drew
            refine rg_start (fun w => w.cell? ⟨mb, 0, none⟩ = some (.pointer (some ⟨sp, 0, none⟩)) ∧ w.cell? ⟨b3, 0, none⟩ = some (bv o.code)) [5, 7] (by kernel_rfl) ?_
            -- P0 P1 P2 P4 L3 L5 S6 S7
            (refine rg_pure (v := ?v0u4) 0 rfl (by kernel_rfl) (fun _ _ _ h => h) rfl ?hy0u4 ?rest0u4; (case hy0u4 => (intro w; go_simp; try with_reducible rfl)); (try simp only [Act.put, List.setIfInBounds_toArray, List.set_cons_zero, List.set_cons_succ]))
            (refine rg_pure (v := ?v1u4) 1 rfl (by kernel_rfl) (fun _ _ _ h => h) rfl ?hy1u4 ?rest1u4; (case hy1u4 => (intro w; go_simp; try with_reducible rfl)); (try simp only [Act.put, List.setIfInBounds_toArray, List.set_cons_zero, List.set_cons_succ]))
            (refine rg_pure (v := ?v2u4) 2 rfl (by kernel_rfl) (fun _ _ _ h => h) rfl ?hy2u4 ?rest2u4; (case hy2u4 => (intro w; go_simp; try with_reducible rfl)); (try simp only [Act.put, List.setIfInBounds_toArray, List.set_cons_zero, List.set_cons_succ]))
            (refine rg_pure (v := ?v4u4) 4 rfl (by kernel_rfl) (fun _ _ _ h => h) rfl ?hy4u4 ?rest4u4; (case hy4u4 => (intro w; go_simp; try with_reducible rfl)); (try simp only [Act.put, List.setIfInBounds_toArray, List.set_cons_zero, List.set_cons_succ]))
            ((first | (refine rg_load 3 rfl (by kernel_rfl) rfl (by exact ⟨hS.blkCell 1 rfl 0 rfl, hS.blkCell 0 rfl 0 rfl⟩) _ _ rfl _ _ rfl _ (fun w hS => hS.1) (fun _ _ _ h => h) ?_) | (refine rg_load 3 rfl (by kernel_rfl) rfl (by exact ⟨hS.blkCell 1 rfl 0 rfl, hS.blkCell 0 rfl 0 rfl⟩) _ _ rfl _ _ rfl _ (fun w hS => hS.2) (fun _ _ _ h => h) ?_)); (try simp only [Act.put, List.setIfInBounds_toArray, List.set_cons_zero, List.set_cons_succ]))
            ((first | (refine rg_load 5 rfl (by kernel_rfl) rfl (by exact ⟨hS.blkCell 1 rfl 0 rfl, hS.blkCell 0 rfl 0 rfl⟩) _ _ rfl _ _ rfl _ (fun w hS => hS.1) (fun _ _ _ h => h) ?_) | (refine rg_load 5 rfl (by kernel_rfl) rfl (by exact ⟨hS.blkCell 1 rfl 0 rfl, hS.blkCell 0 rfl 0 rfl⟩) _ _ rfl _ _ rfl _ (fun w hS => hS.2) (fun _ _ _ h => h) ?_)); (try simp only [Act.put, List.setIfInBounds_toArray, List.set_cons_zero, List.set_cons_succ]))
            (refine rg_step 6 rfl (by kernel_rfl) (fun K' hK => ?_); go_wp2_with (first | (go_at_call 111; refine (hdo (Init.right (L := [_, _, _]) hS.toInit) hst).mono ?_; rintro e w' ⟨rfl, J8, L8, hn, hst8⟩; replace hS := Nx.callTail (L2 := [_, _, _]) hS hn; clear hn) | (go_at_call 94; refine (failNo_spec).mono ?_; rintro e w' ⟨⟨_, rfl⟩, rfl⟩)); (try with_reducible refine rg_back ?_); refine hK.out _ _ (fun h => absurd h (by decide)) ?_; clear hK; clear K'; (try simp only [Act.put, List.setIfInBounds_toArray, List.set_cons_zero, List.set_cons_succ]))
            (refine rg_step 7 rfl (by kernel_rfl) (fun K' hK => ?_); go_wp2_with (first | (go_at_call 111; refine (hdo (Init.right (L := [_, _, _]) hS.toInit) hst).mono ?_; rintro e w' ⟨rfl, J8, L8, hn, hst8⟩; replace hS := Nx.callTail (L2 := [_, _, _]) hS hn; clear hn) | (go_at_call 94; refine (failNo_spec).mono ?_; rintro e w' ⟨⟨_, rfl⟩, rfl⟩)); (try with_reducible refine rg_back ?_); refine hK.out _ _ (fun _ => by exact ⟨hS.blkCell 1 rfl 0 rfl, hS.blkCell 0 rfl 0 rfl⟩) ?_; clear hK; clear K'; (try simp only [Act.put, List.setIfInBounds_toArray, List.set_cons_zero, List.set_cons_succ]))
            refine rg_done (by kernel_rfl) ?_
            simp only [List.cons_append, List.nil_append] at hS
            have hma : MachAt J8 mb sp dig m2 (machI mb sp dig ba m.br.length bc m.many :: .row 1 174 (.slice ba m.br.length bc) m.br.length (brV m.br) :: L8) := by rw [Hm2.out]; exact ⟨ba, bc, L8, rfl, hst8⟩
            go_wp2_with (first | ((with_reducible refine gL_load ?_); first | (refine sL_load hS rfl _ _ rfl _ _ rfl 0 _ _ rfl _ rfl ?_) | (refine sL_loadA hS rfl _ _ rfl _ _ rfl 0 _ _ rfl _ rfl rfl ?_)) | (go_at_call 115; refine (verified_spec).mono ?_; rintro e w' ⟨rfl, rfl⟩; rw [hver]) | (go_at_call 116; refine (hvf (Init.right (L := [_]) hS.toInit) hma).mono ?_; rintro e w' ⟨J9, L9, v9, rfl, _, hn, hma9⟩; replace hS := Nx.callTail (L2 := [_]) hS hn; clear hn))
            exact bodyPost_end (results_none rfl _ _ _) rfl ⟨J9, L9, _, rfl, trivial, hS.drop, hma9⟩
    | false =>
      simp only [hdoes, Bool.false_eq_true, if_false] at hR hkeep
      obtain ⟨k, hk⟩ : ∃ k, k = arityN o.code := ⟨_, rfl⟩
      have hk3 := arityN_le o.code
      by_cases hk0 : arityN o.code > 0
      · have hki : (0 : Int) < (arityN o.code : Nat) := by omega
        rw [if_pos hk0] at hR hkeep
        have hnum := fun {J : Imm} {w : World} {L : List Item} (hin : Init J L w) (h : MachAt J mb sp dig m L) => numbers_spec (dig := dig) hin h hm hk0 hk3
        unfold RPost at hnum
        cases hr : numbersM o.code m with
        | error e0 =>
          rw [hr] at hnum hR
          simp only [bindM] at hR
          rw [hR]
          clear hR hk
          go_enter Tryz.func93, Tryz.ntmps93
          go_wp2_with (first | ((with_reducible refine gL_box ?_); (refine sL_box hS rfl _ _ rfl _ (by go_simp; first | exact rfl | exact ⟨rfl, rfl⟩) ?_; clear hS; intro b3 w' hb3 hS)) | ((with_reducible refine gL_load ?_); first | (refine sL_load hS rfl _ _ rfl _ _ rfl 0 _ _ rfl _ rfl ?_) | (refine sL_loadA hS rfl _ _ rfl _ _ rfl 0 _ _ rfl _ rfl rfl ?_)) | (go_at_call 75; refine (hval (Imm.Le.refl _) hS.hI).mono ?_; rintro e w' ⟨rfl, J, hn⟩; have hle := hn.le hS.hI; replace hS := hS.pure0 hn; clear hn) | (go_at_call 110; refine (Does_spec).mono ?_; rintro e w' ⟨rfl, rfl⟩; rw [hdoes]) | (go_at_call 112; refine (Arity_spec).mono ?_; rintro e w' ⟨rfl, rfl⟩) | (go_at_call 113; refine (hnum (Init.right (L := [_]) hS.toInit) (h.mono hle)).mono ?_; rintro e w' ⟨rfl, J8, L8, hn⟩; replace hS := Nx.callTail (L2 := [_]) hS hn; clear hn))
          exact ⟨rfl, rfl, J8, _, hS⟩
        | ok r0 =>
          obtain ⟨u, m2⟩ := r0
          have hm2 := (hkeep _ _ hr).ok
          rw [hr] at hnum hR
          simp only [bindM] at hR
          clear hr hkeep hk
          cases hver : verifiedB o.code with
          | false =>
            simp only [hver, Bool.false_eq_true, if_false] at hR
            rw [hR]
            clear hR
            go_enter Tryz.func93, Tryz.ntmps93
            go_wp2_with (first | ((with_reducible refine gL_box ?_); (refine sL_box hS rfl _ _ rfl _ (by go_simp; first | exact rfl | exact ⟨rfl, rfl⟩) ?_; clear hS; intro b3 w' hb3 hS)) | ((with_reducible refine gL_load ?_); first | (refine sL_load hS rfl _ _ rfl _ _ rfl 0 _ _ rfl _ rfl ?_) | (refine sL_loadA hS rfl _ _ rfl _ _ rfl 0 _ _ rfl _ rfl rfl ?_)) | (go_at_call 75; refine (hval (Imm.Le.refl _) hS.hI).mono ?_; rintro e w' ⟨rfl, J, hn⟩; have hle := hn.le hS.hI; replace hS := hS.pure0 hn; clear hn) | (go_at_call 110; refine (Does_spec).mono ?_; rintro e w' ⟨rfl, rfl⟩; rw [hdoes]) | (go_at_call 112; refine (Arity_spec).mono ?_; rintro e w' ⟨rfl, rfl⟩) | (go_at_call 113; refine (hnum (Init.right (L := [_]) hS.toInit) (h.mono hle)).mono ?_; rintro e w' ⟨J8, L8, v8, rfl, _, hn, hma⟩; replace hS := Nx.callTail (L2 := [_]) hS hn; clear hn; refine Stop.of ?_))
            refine Stop.to ?_
            go_wp2_with (first | ((with_reducible refine gL_load ?_); first | (refine sL_load hS rfl _ _ rfl _ _ rfl 0 _ _ rfl _ rfl ?_) | (refine sL_loadA hS rfl _ _ rfl _ _ rfl 0 _ _ rfl _ rfl rfl ?_)) | (go_at_call 115; refine (verified_spec).mono ?_; rintro e w' ⟨rfl, rfl⟩; rw [hver]))
            exact bodyPost_end (results_none rfl _ _ _) rfl ⟨_, _, _, rfl, trivial, hS.drop, hma⟩
          | true =>
            simp only [hver, if_true] at hR
            have hvf := fun {J : Imm} {w : World} {L : List Item} (hin : Init J L w) (h : MachAt J mb sp dig m2 L) => verify_spec (dig := dig) hin h hm2
            unfold RPost at hvf
            rw [← hR] at hvf
            clear hR
            cases R with
            | error e9 =>
              go_enter Tryz.func93, Tryz.ntmps93
              go_wp2_with (first | ((with_reducible refine gL_box ?_); (refine sL_box hS rfl _ _ rfl _ (by go_simp; first | exact rfl | exact ⟨rfl, rfl⟩) ?_; clear hS; intro b3 w' hb3 hS)) | ((with_reducible refine gL_load ?_); first | (refine sL_load hS rfl _ _ rfl _ _ rfl 0 _ _ rfl _ rfl ?_) | (refine sL_loadA hS rfl _ _ rfl _ _ rfl 0 _ _ rfl _ rfl rfl ?_)) | (go_at_call 75; refine (hval (Imm.Le.refl _) hS.hI).mono ?_; rintro e w' ⟨rfl, J, hn⟩; have hle := hn.le hS.hI; replace hS := hS.pure0 hn; clear hn) | (go_at_call 110; refine (Does_spec).mono ?_; rintro e w' ⟨rfl, rfl⟩; rw [hdoes]) | (go_at_call 112; refine (Arity_spec).mono ?_; rintro e w' ⟨rfl, rfl⟩) | (go_at_call 113; refine (hnum (Init.right (L := [_]) hS.toInit) (h.mono hle)).mono ?_; rintro e w' ⟨J8, L8, v8, rfl, _, hn, hma⟩; replace hS := Nx.callTail (L2 := [_]) hS hn; clear hn; refine Stop.of ?_))
              refine Stop.to ?_
              go_wp2_with (first | ((with_reducible refine gL_load ?_); first | (refine sL_load hS rfl _ _ rfl _ _ rfl 0 _ _ rfl _ rfl ?_) | (refine sL_loadA hS rfl _ _ rfl _ _ rfl 0 _ _ rfl _ rfl rfl ?_)) | (go_at_call 115; refine (verified_spec).mono ?_; rintro e w' ⟨rfl, rfl⟩; rw [hver]) | (go_at_call 116; refine (hvf (Init.right (L := [_]) hS.toInit) hma).mono ?_; rintro e w' ⟨rfl, J9, L9, hn⟩; replace hS := Nx.callTail (L2 := [_]) hS hn; clear hn))
              exact ⟨rfl, rfl, J9, _, hS⟩
            | ok r9 =>
              go_enter Tryz.func93, Tryz.ntmps93
              go_wp2_with (first | ((with_reducible refine gL_box ?_); (refine sL_box hS rfl _ _ rfl _ (by go_simp; first | exact rfl | exact ⟨rfl, rfl⟩) ?_; clear hS; intro b3 w' hb3 hS)) | ((with_reducible refine gL_load ?_); first | (refine sL_load hS rfl _ _ rfl _ _ rfl 0 _ _ rfl _ rfl ?_) | (refine sL_loadA hS rfl _ _ rfl _ _ rfl 0 _ _ rfl _ rfl rfl ?_)) | (go_at_call 75; refine (hval (Imm.Le.refl _) hS.hI).mono ?_; rintro e w' ⟨rfl, J, hn⟩; have hle := hn.le hS.hI; replace hS := hS.pure0 hn; clear hn) | (go_at_call 110; refine (Does_spec).mono ?_; rintro e w' ⟨rfl, rfl⟩; rw [hdoes]) | (go_at_call 112; refine (Arity_spec).mono ?_; rintro e w' ⟨rfl, rfl⟩) | (go_at_call 113; refine (hnum (Init.right (L := [_]) hS.toInit) (h.mono hle)).mono ?_; rintro e w' ⟨J8, L8, v8, rfl, _, hn, hma⟩; replace hS := Nx.callTail (L2 := [_]) hS hn; clear hn; refine Stop.of ?_))
              refine Stop.to ?_
              go_wp2_with (first | ((with_reducible refine gL_load ?_); first | (refine sL_load hS rfl _ _ rfl _ _ rfl 0 _ _ rfl _ rfl ?_) | (refine sL_loadA hS rfl _ _ rfl _ _ rfl 0 _ _ rfl _ rfl rfl ?_)) | (go_at_call 115; refine (verified_spec).mono ?_; rintro e w' ⟨rfl, rfl⟩; rw [hver]) | (go_at_call 116; refine (hvf (Init.right (L := [_]) hS.toInit) hma).mono ?_; rintro e w' ⟨J9, L9, v9, rfl, _, hn, hma9⟩; replace hS := Nx.callTail (L2 := [_]) hS hn; clear hn))
              exact bodyPost_end (results_none rfl _ _ _) rfl ⟨J9, L9, _, rfl, trivial, hS.drop, hma9⟩
      · have hki : ¬ (0 : Int) < (arityN o.code : Nat) := by omega
        rw [if_neg hk0] at hR hkeep
        have hoth := fun {J : Imm} {w : World} {L : List Item} (hin : Init J L w) (h : MachAt J mb sp dig m L) => other_spec (dig := dig) hin h hd hm (c := o.code)
        unfold RPost at hoth
        cases hr : otherM shaH dig o.code m with
        | error e0 =>
          rw [hr] at hoth hR
          simp only [bindM] at hR
          rw [hR]
          clear hR hk
          go_enter Tryz.func93, Tryz.ntmps93
          go_wp2_with (first | ((with_reducible refine gL_box ?_); (refine sL_box hS rfl _ _ rfl _ (by go_simp; first | exact rfl | exact ⟨rfl, rfl⟩) ?_; clear hS; intro b3 w' hb3 hS)) | ((with_reducible refine gL_load ?_); first | (refine sL_load hS rfl _ _ rfl _ _ rfl 0 _ _ rfl _ rfl ?_) | (refine sL_loadA hS rfl _ _ rfl _ _ rfl 0 _ _ rfl _ rfl rfl ?_)) | (go_at_call 75; refine (hval (Imm.Le.refl _) hS.hI).mono ?_; rintro e w' ⟨rfl, J, hn⟩; have hle := hn.le hS.hI; replace hS := hS.pure0 hn; clear hn) | (go_at_call 110; refine (Does_spec).mono ?_; rintro e w' ⟨rfl, rfl⟩; rw [hdoes]) | (go_at_call 112; refine (Arity_spec).mono ?_; rintro e w' ⟨rfl, rfl⟩) | (go_at_call 114; refine (hoth (Init.right (L := [_]) hS.toInit) (h.mono hle)).mono ?_; rintro e w' ⟨rfl, J8, L8, hn⟩; replace hS := Nx.callTail (L2 := [_]) hS hn; clear hn))
          exact ⟨rfl, rfl, J8, _, hS⟩
        | ok r0 =>
          obtain ⟨u, m2⟩ := r0
          have hm2 := (hkeep _ _ hr).ok
          rw [hr] at hoth hR
          simp only [bindM] at hR
          clear hr hkeep hk
          cases hver : verifiedB o.code with
          | false =>
            simp only [hver, Bool.false_eq_true, if_false] at hR
            rw [hR]
            clear hR
            go_enter Tryz.func93, Tryz.ntmps93
            go_wp2_with (first | ((with_reducible refine gL_box ?_); (refine sL_box hS rfl _ _ rfl _ (by go_simp; first | exact rfl | exact ⟨rfl, rfl⟩) ?_; clear hS; intro b3 w' hb3 hS)) | ((with_reducible refine gL_load ?_); first | (refine sL_load hS rfl _ _ rfl _ _ rfl 0 _ _ rfl _ rfl ?_) | (refine sL_loadA hS rfl _ _ rfl _ _ rfl 0 _ _ rfl _ rfl rfl ?_)) | (go_at_call 75; refine (hval (Imm.Le.refl _) hS.hI).mono ?_; rintro e w' ⟨rfl, J, hn⟩; have hle := hn.le hS.hI; replace hS := hS.pure0 hn; clear hn) | (go_at_call 110; refine (Does_spec).mono ?_; rintro e w' ⟨rfl, rfl⟩; rw [hdoes]) | (go_at_call 112; refine (Arity_spec).mono ?_; rintro e w' ⟨rfl, rfl⟩) | (go_at_call 114; refine (hoth (Init.right (L := [_]) hS.toInit) (h.mono hle)).mono ?_; rintro e w' ⟨J8, L8, v8, rfl, _, hn, hma⟩; replace hS := Nx.callTail (L2 := [_]) hS hn; clear hn; refine Stop.of ?_))
            refine Stop.to ?_
            go_wp2_with (first | ((with_reducible refine gL_load ?_); first | (refine sL_load hS rfl _ _ rfl _ _ rfl 0 _ _ rfl _ rfl ?_) | (refine sL_loadA hS rfl _ _ rfl _ _ rfl 0 _ _ rfl _ rfl rfl ?_)) | (go_at_call 115; refine (verified_spec).mono ?_; rintro e w' ⟨rfl, rfl⟩; rw [hver]))
            exact bodyPost_end (results_none rfl _ _ _) rfl ⟨_, _, _, rfl, trivial, hS.drop, hma⟩
          | true =>
            simp only [hver, if_true] at hR
            have hvf := fun {J : Imm} {w : World} {L : List Item} (hin : Init J L w) (h : MachAt J mb sp dig m2 L) => verify_spec (dig := dig) hin h hm2
            unfold RPost at hvf
            rw [← hR] at hvf
            clear hR
            cases R with
            | error e9 =>
              go_enter Tryz.func93, Tryz.ntmps93
              go_wp2_with (first | ((with_reducible refine gL_box ?_); (refine sL_box hS rfl _ _ rfl _ (by go_simp; first | exact rfl | exact ⟨rfl, rfl⟩) ?_; clear hS; intro b3 w' hb3 hS)) | ((with_reducible refine gL_load ?_); first | (refine sL_load hS rfl _ _ rfl _ _ rfl 0 _ _ rfl _ rfl ?_) | (refine sL_loadA hS rfl _ _ rfl _ _ rfl 0 _ _ rfl _ rfl rfl ?_)) | (go_at_call 75; refine (hval (Imm.Le.refl _) hS.hI).mono ?_; rintro e w' ⟨rfl, J, hn⟩; have hle := hn.le hS.hI; replace hS := hS.pure0 hn; clear hn) | (go_at_call 110; refine (Does_spec).mono ?_; rintro e w' ⟨rfl, rfl⟩; rw [hdoes]) | (go_at_call 112; refine (Arity_spec).mono ?_; rintro e w' ⟨rfl, rfl⟩) | (go_at_call 114; refine (hoth (Init.right (L := [_]) hS.toInit) (h.mono hle)).mono ?_; rintro e w' ⟨J8, L8, v8, rfl, _, hn, hma⟩; replace hS := Nx.callTail (L2 := [_]) hS hn; clear hn; refine Stop.of ?_))
              refine Stop.to ?_
              go_wp2_with (first | ((with_reducible refine gL_load ?_); first | (refine sL_load hS rfl _ _ rfl _ _ rfl 0 _ _ rfl _ rfl ?_) | (refine sL_loadA hS rfl _ _ rfl _ _ rfl 0 _ _ rfl _ rfl rfl ?_)) | (go_at_call 115; refine (verified_spec).mono ?_; rintro e w' ⟨rfl, rfl⟩; rw [hver]) | (go_at_call 116; refine (hvf (Init.right (L := [_]) hS.toInit) hma).mono ?_; rintro e w' ⟨rfl, J9, L9, hn⟩; replace hS := Nx.callTail (L2 := [_]) hS hn; clear hn))
              exact ⟨rfl, rfl, J9, _, hS⟩
            | ok r9 =>
              go_enter Tryz.func93, Tryz.ntmps93
              go_wp2_with (first | ((with_reducible refine gL_box ?_); (refine sL_box hS rfl _ _ rfl _ (by go_simp; first | exact rfl | exact ⟨rfl, rfl⟩) ?_; clear hS; intro b3 w' hb3 hS)) | ((with_reducible refine gL_load ?_); first | (refine sL_load hS rfl _ _ rfl _ _ rfl 0 _ _ rfl _ rfl ?_) | (refine sL_loadA hS rfl _ _ rfl _ _ rfl 0 _ _ rfl _ rfl rfl ?_)) | (go_at_call 75; refine (hval (Imm.Le.refl _) hS.hI).mono ?_; rintro e w' ⟨rfl, J, hn⟩; have hle := hn.le hS.hI; replace hS := hS.pure0 hn; clear hn) | (go_at_call 110; refine (Does_spec).mono ?_; rintro e w' ⟨rfl, rfl⟩; rw [hdoes]) | (go_at_call 112; refine (Arity_spec).mono ?_; rintro e w' ⟨rfl, rfl⟩) | (go_at_call 114; refine (hoth (Init.right (L := [_]) hS.toInit) (h.mono hle)).mono ?_; rintro e w' ⟨J8, L8, v8, rfl, _, hn, hma⟩; replace hS := Nx.callTail (L2 := [_]) hS hn; clear hn; refine Stop.of ?_))
              refine Stop.to ?_
              go_wp2_with (first | ((with_reducible refine gL_load ?_); first | (refine sL_load hS rfl _ _ rfl _ _ rfl 0 _ _ rfl _ rfl ?_) | (refine sL_loadA hS rfl _ _ rfl _ _ rfl 0 _ _ rfl _ rfl rfl ?_)) | (go_at_call 115; refine (verified_spec).mono ?_; rintro e w' ⟨rfl, rfl⟩; rw [hver]) | (go_at_call 116; refine (hvf (Init.right (L := [_]) hS.toInit) hma).mono ?_; rintro e w' ⟨J9, L9, v9, rfl, _, hn, hma9⟩; replace hS := Nx.callTail (L2 := [_]) hS hn; clear hn))
              exact bodyPost_end (results_none rfl _ _ _) rfl ⟨J9, L9, _, rfl, trivial, hS.drop, hma9⟩
end Go.Proofs.YtmlgieclkedomaaGreat
