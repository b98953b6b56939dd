/- What the statement's proof stands on, part 6: contracts of the program's functions, and plain laws. -/
import Derived.Test.YtmlgieclkedomaaGreatRows
import Derived.WalkKit
import Derived.ProofKit
import Derived.OpenShut
import Derived.ShutString
import Derived.Deep.Slices
import Derived.Test.YtmlgieclkedomaaGreatPushes1
import Derived.Test.YtmlgieclkedomaaGreatPushes2
import Derived.Test.YtmlgieclkedomaaGreatPushes3
import Derived.Test.YtmlgieclkedomaaGreatPushes4
import Derived.Test.YtmlgieclkedomaaGreatPushes5
set_option linter.unusedVariables false
set_option linter.unusedSimpArgs false
namespace Go.Proofs.YtmlgieclkedomaaGreat
open Go Go.RowKit
open Go.ChangeShapes Go.WideShapes Go.ChangeAt
open Go.ChangeMaps (open_string shut_string)

/-- all that lies there as the call begins -/
def allI (W : World) : Imm := fun b => W.heap[b]?
theorem allI_holds (W : World) : (allI W).Holds W := fun _ _ h => h
theorem allI_below {W W' : World} {J : Imm} (h : Nx [] (allI W) W J [] W') : Below W.heap.size W W' := by
  exact ⟨h.ev.os, h.ev.tape, h.ev.output, h.ev.size, fun k hk => h.ev.block k hk (by simp [blocks])⟩
theorem own : ownKnob Tryz.prog.godebug = none := by kernel_rfl
theorem laidOut : laidOutB Tryz.prog = true := by kernel_rfl
theorem cell_addr {W : World} {a : Addr} {v : Value} (h : W.cell? a = some v) : ∃ b j, a = ⟨b, j, none⟩ := by
  obtain ⟨b, j, s⟩ := a
  unfold World.cell? at h
  split at h
  · split at h
    · cases h
    · rename_i hs
      cases s with
      | none => exact ⟨b, j, rfl⟩
      | some _ => simp at hs
  · cases h
theorem allI_at {W : World} {b j : Nat} {xs : List Value} (h0 : 0 < xs.length) (h : ∀ i u, xs[i]? = some u → W.cell? ((⟨b, j, none⟩ : Addr).add i) = some u) : (allI W).At b j xs := by
  have h1 := h 0 xs[0] (by simp)
  rw [Addr.add_lit] at h1
  unfold World.cell? at h1
  split at h1
  · rename_i c e fr hb
    refine ⟨c, e, fr, hb, fun i u hu => ?_⟩
    have h2 := h i u hu
    rw [Addr.add_lit] at h2
    unfold World.cell? at h2
    rw [show W.heap[(⟨b, j + i, none⟩ : Addr).block]? = some (.cells c e fr) from hb] at h2
    simpa using h2
  · cases h1
theorem byte_of {n : Int} (h : (Lit.int .u8 n).wf = true) : Value.int .u8 n = bv (UInt8.ofNat n.toNat) := by
  have hb : 0 ≤ n ∧ n ≤ 255 := by
    have := bounds_u8 h
    omega
  unfold bv
  congr 1
  simp
  omega
theorem open_by {H : Type} {enc : TypeId × Value → H} {W : World} {n : Nat} {cs : List Value} {x : DataW H × List MemPlace} (hf : DataW.trod enc Tryz.prog W 0 (fun _ => true) true n 22 cs = some x) :
    ∃ ad c b, cs = [.slice ad (List.length (α := UInt8) b) c] ∧ RdB (allI W) (.slice ad b.length c) b := by
  rcases open_ints Tryz.underlying22 Tryz.underlying5 (by kernel_rfl) hf with ⟨hcs, _⟩ | ⟨a, l, c, zs, hcs, _, hl, hm, hz, _, hcell, hwz⟩
  · exact ⟨none, 0, [], hcs, ⟨⟨none, 0, rfl, Nat.le_refl _, by decide, .inl ⟨trivial, rfl, rfl, rfl⟩⟩⟩⟩
  · simp only [if_true] at hz
    obtain ⟨b, hb⟩ : ∃ b : List UInt8, b = (zs.take l).map fun n => UInt8.ofNat n.toNat := ⟨_, rfl⟩
    have hbl : b.length = l := by rw [hb, List.length_map, List.length_take]; omega
    have hbv : bvs b = (zs.take l).map fun n => Value.int .u8 n := by
      rw [hb]
      simp only [bvs, List.map_map]
      refine List.map_congr_left fun n hn => ?_
      exact (byte_of (hwz n (List.mem_of_mem_take hn))).symm
    refine ⟨some a, c, b, by rw [hcs, hbl], ⟨⟨some a, c, rfl, by omega, hm, ?_⟩⟩⟩
    by_cases hc0 : c = 0
    · have : l = 0 := by omega
      exact .inl ⟨trivial, by omega, hc0, by rw [hbv, this]; rfl⟩
    · obtain ⟨bb, j, rfl⟩ := cell_addr (hcell 0 (by omega))
      have hcl : ∀ i u, (bvs b)[i]? = some u → W.cell? ((⟨bb, j, none⟩ : Addr).add i) = some u := fun i u hu => by
        rw [hbv, List.getElem?_map] at hu
        obtain ⟨m, hm1, rfl⟩ := Option.map_eq_some_iff.1 hu
        rw [List.getElem?_take] at hm1
        split at hm1
        · rw [hcell i (List.getElem?_eq_some_iff.1 hm1).1, List.getD_eq_getElem?_getD, hm1]; rfl
        · cases hm1
      refine .inr ⟨bb, j, rfl, ?_⟩
      by_cases hl0 : l = 0
      · have h0 : bvs b = [] := by rw [hbv, hl0]; rfl
        have h1 := hcell 0 (by omega)
        unfold World.cell? at h1
        split at h1
        · rename_i cc e fr hbb
          rw [h0]
          refine ⟨cc, e, fr, ?_, by simp⟩
          have : ((⟨bb, j, none⟩ : Addr).add 0).block = bb := rfl
          rw [this] at hbb
          exact hbb
        · cases h1
      · exact allI_at (by simp [hbl]; omega) hcl
theorem Reps.ofFn {α : Type} [Rep α] {I : Imm} {f : Nat → α} {g : Nat → Value} : ∀ n, (∀ i, i < n → Rep.cells I (f i) [g i]) → Reps I ((List.range n).map f) ((List.range n).map g)
  | 0, _ => rfl
  | n + 1, h => by
    rw [List.range_succ, List.map_append, List.map_append]
    exact (Reps.ofFn n (fun i hi => h i (by omega))).append (Reps.single (h n (by omega)))
theorem open_bys {H : Type} {enc : TypeId × Value → H} {W : World} {n : Nat} {cs : List Value} {x : DataW H × List MemPlace} (hf : DataW.trod enc Tryz.prog W 0 (fun _ => true) true n 24 cs = some x) :
    ∃ v l, cs = [v] ∧ RepsRd (α := Bs) (allI W) v l := by
  rcases Go.Deep.open_slice1 (P := Tryz.prog) (by kernel_rfl) (by kernel_rfl) hf with ⟨hcs, _⟩ | ⟨a, len, cap, m, k, V, D, Pl, hcs, _, hl, hm, hmm, _, hx⟩
  · exact ⟨_, [], hcs, [], ⟨⟨none, 0, rfl, Nat.le_refl _, by decide, .inl ⟨trivial, rfl, rfl, rfl⟩⟩⟩, rfl⟩
  · simp only [if_true] at hmm
    subst hmm
    have hb : ∀ i, i < m → ∃ b : Bs, ∃ ad c, V i = .slice ad b.length c ∧ RdB (allI W) (.slice ad b.length c) b := fun i hi => by
      obtain ⟨ad, c, b, e, hr⟩ := open_by (hx i hi).2
      simp only [List.cons.injEq, and_true] at e
      exact ⟨b, ad, c, e, hr⟩
    obtain ⟨B, hB⟩ : ∃ B : Nat → Bs, ∀ i, i < m → ∃ ad c, V i = .slice ad (B i).length c ∧ RdB (allI W) (.slice ad (B i).length c) (B i) := by
      refine ⟨fun i => if h : i < m then (hb i h).choose else [], fun i hi => ?_⟩
      simp only [dif_pos hi]
      exact (hb i hi).choose_spec
    have hreps : Reps (allI W) ((List.range len).map B) ((List.range len).map V) := Reps.ofFn len fun i hi => by
      obtain ⟨ad, c, e, hr⟩ := hB i (by omega)
      exact ⟨ad, c, by rw [e], hr⟩
    refine ⟨_, (List.range len).map B, hcs, (List.range len).map V, ⟨⟨some a, m, by simp, by simpa using hl, hm, ?_⟩⟩, hreps⟩
    by_cases hc0 : m = 0
    · have : len = 0 := by omega
      subst this
      exact .inl ⟨trivial, rfl, hc0, rfl⟩
    · obtain ⟨bb, j, rfl⟩ := cell_addr (hx 0 (by omega)).1
      refine .inr ⟨bb, j, rfl, ?_⟩
      by_cases hl0 : len = 0
      · have h1 := (hx 0 (by omega)).1
        unfold World.cell? at h1
        split at h1
        · rename_i cc e fr hbb
          refine ⟨cc, e, fr, ?_, by rw [hl0]; simp⟩
          have : ((⟨bb, j, none⟩ : Addr).add 0).block = bb := rfl
          rw [this] at hbb
          exact hbb
        · cases h1
      · refine allI_at (by simp; omega) fun i u hu => ?_
        rw [List.getElem?_map] at hu
        obtain ⟨q, hq, rfl⟩ := Option.map_eq_some_iff.1 hu
        obtain ⟨hq1, hq2⟩ := List.getElem?_eq_some_iff.1 hq
        simp at hq1 hq2
        subst hq2
        exact (hx i (by omega)).1
end Go.Proofs.YtmlgieclkedomaaGreat
