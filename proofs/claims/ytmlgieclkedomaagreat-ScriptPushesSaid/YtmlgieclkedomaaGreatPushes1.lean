/- What the statement's proof stands on, part 1: contracts of the program's functions, and plain laws. -/
import Derived.WalkKit
import Derived.Lib.Hide
import Derived.RangeFuncNested
import Derived.OwnWalkIn
import Derived.TacticsInMore
import Derived.WalkSpells
import Derived.Laws.ResultCell
import Derived.Test.YtmlgieclkedomaaGreatProg
import Derived.RangeFuncBound
import Derived.Shelf.Abstract
import Derived.Laws.BitsLemmas
import Derived.LoopIn
import Derived.LoopNIn
import Derived.Deep.RegionHeld
import Derived.Great.FillDense
import Derived.OrdersIn
set_option linter.unusedVariables false
set_option linter.unusedSimpArgs false
namespace Go.Proofs.YtmlgieclkedomaaGreat
open Go Go.RowKit

/-- what is never written again -/
abbrev Imm := Nat → Option Obj
def Imm.Holds (I : Imm) (w : World) : Prop := ∀ b o, I b = some o → w.heap[b]? = some o
def Imm.Le (I J : Imm) : Prop := ∀ b o, I b = some o → J b = some o
theorem Imm.Le.refl (I : Imm) : I.Le I := fun _ _ h => h
theorem Imm.Le.trans {I J K : Imm} (h : I.Le J) (k : J.Le K) : I.Le K := fun b o x => k b o (h b o x)
theorem Imm.Holds.lt {I : Imm} {w : World} (h : I.Holds w) {b : Nat} {o : Obj} (hb : I b = some o) : b < w.heap.size :=
  (Array.getElem?_eq_some_iff.1 (h b o hb)).1
theorem Imm.Holds.out {I : Imm} {w : World} (h : I.Holds w) {b : Nat} (hb : w.heap.size ≤ b) : I b = none := by
  cases e : I b with
  | none => rfl
  | some o => have := h.lt e; omega
theorem Imm.Holds.cell {I : Imm} {w : World} (h : I.Holds w) {b i : Nat} {cur : Array Value} {e : TypeId} {fr : Nat × Nat} {u : Value}
    (hb : I b = some (.cells cur e fr)) (hu : cur[i]? = some u) : w.cell? ⟨b, i, none⟩ = some u := by
  simp [World.cell?, h b _ hb, hu]

/-- the world goes on: old blocks outside F are as they were; what is immutable below stays, more may come -/
structure Ev (F : Nat → Prop) (I : Imm) (w : World) (J : Imm) (w' : World) : Prop where
  os : w'.os = w.os
  tape : w'.tape = w.tape
  output : w'.output = w.output
  size : w.heap.size ≤ w'.heap.size
  block : ∀ k, k < w.heap.size → ¬ F k → w'.heap[k]? = w.heap[k]?
  imm : ∀ k, k < w.heap.size → J k = I k
  holds : J.Holds w'

def None' : Nat → Prop := fun _ => False

theorem Ev.refl {F : Nat → Prop} {I : Imm} {w : World} (h : I.Holds w) : Ev F I w I w :=
  ⟨rfl, rfl, rfl, Nat.le_refl _, fun _ _ _ => rfl, fun _ _ => rfl, h⟩
theorem Ev.trans {F G : Nat → Prop} {I J K : Imm} {a b c : World} (h : Ev F I a J b) (k : Ev G J b K c) (hG : ∀ n, G n → n < a.heap.size → F n) : Ev F I a K c :=
  ⟨k.os.trans h.os, k.tape.trans h.tape, k.output.trans h.output, Nat.le_trans h.size k.size,
   fun n hn hf => (k.block n (Nat.lt_of_lt_of_le hn h.size) (fun g => hf (hG n g hn))).trans (h.block n hn hf),
   fun n hn => (k.imm n (Nat.lt_of_lt_of_le hn h.size)).trans (h.imm n hn), k.holds⟩
theorem Ev.le {F : Nat → Prop} {I J : Imm} {w w' : World} (h : Ev F I w J w') (hI : I.Holds w) : I.Le J :=
  fun b _ x => (h.imm b (hI.lt x)).trans x
theorem Ev.of_below {F : Nat → Prop} {I : Imm} {w w' : World} (h : Below w.heap.size w w') (hI : I.Holds w) : Ev F I w I w' :=
  ⟨h.os, h.tape, h.output, h.size, fun k hk _ => h.block k hk, fun _ _ => rfl, fun b o x => (h.block b (hI.lt x)).trans (hI b o x)⟩
/-- how a datum lies in cells -/
class Rep (α : Type) where
  sz : Nat
  cells : Imm → α → List Value → Prop
  len : ∀ {I a cs}, cells I a cs → cs.length = sz
  mono : ∀ {I J a cs}, Imm.Le I J → cells I a cs → cells J a cs
  one : ∀ {I a cs}, cells I a cs → ∀ u ∈ cs, u.oneCell' = true

variable {α : Type}
def Reps [Rep α] (I : Imm) : List α → List Value → Prop
  | [], xs => xs = []
  | a :: l, xs => ∃ c r, xs = c ++ r ∧ Rep.cells I a c ∧ Reps I l r

theorem Reps.mono [Rep α] {I J : Imm} (h : I.Le J) : ∀ {l : List α} {xs}, Reps I l xs → Reps J l xs
  | [], _, k => k
  | _ :: _, _, ⟨c, r, e, hc, hr⟩ => ⟨c, r, e, Rep.mono h hc, Reps.mono h hr⟩
theorem Reps.len [Rep α] {I : Imm} : ∀ {l : List α} {xs}, Reps I l xs → xs.length = l.length * Rep.sz α
  | [], _, k => by rw [show _ = [] from k]; simp
  | _ :: l, _, ⟨c, r, e, hc, hr⟩ => by rw [e, List.length_append, Rep.len hc, Reps.len hr, List.length_cons, Nat.add_mul]; omega
theorem Reps.one [Rep α] {I : Imm} : ∀ {l : List α} {xs}, Reps I l xs → ∀ u ∈ xs, u.oneCell' = true
  | [], _, k, u, hu => by rw [show _ = [] from k] at hu; cases hu
  | _ :: l, _, ⟨c, r, e, hc, hr⟩, u, hu => by
    rw [e] at hu
    rcases List.mem_append.1 hu with h | h
    · exact Rep.one hc u h
    · exact Reps.one hr u h
theorem Reps.append [Rep α] {I : Imm} : ∀ {l m : List α} {xs ys}, Reps I l xs → Reps I m ys → Reps I (l ++ m) (xs ++ ys)
  | [], _, _, _, k, k' => by rw [show _ = [] from k]; exact k'
  | _ :: l, _, _, _, ⟨c, r, e, hc, hr⟩, k' => ⟨c, r ++ _, by rw [e, List.append_assoc], hc, Reps.append hr k'⟩
theorem Reps.single [Rep α] {I : Imm} {a : α} {c} (h : Rep.cells I a c) : Reps I [a] c := ⟨c, [], by simp, h, rfl⟩
theorem Reps.drop [Rep α] {I : Imm} : ∀ (n : Nat) {l : List α} {xs}, Reps I l xs → Reps I (l.drop n) (xs.drop (n * Rep.sz α))
  | 0, _, _, k => by simpa using k
  | n + 1, [], _, k => by rw [show _ = [] from k]; simp [Reps]
  | n + 1, _ :: l, _, ⟨c, r, e, hc, hr⟩ => by
    have := Reps.drop n hr
    rw [e, List.drop_succ_cons, Nat.add_mul, Nat.one_mul, Nat.add_comm, ← List.drop_drop, List.drop_left' (Rep.len hc)]
    exact this
theorem Reps.take [Rep α] {I : Imm} : ∀ (n : Nat) {l : List α} {xs}, Reps I l xs → Reps I (l.take n) (xs.take (n * Rep.sz α))
  | 0, _, _, k => by simp [Reps]
  | n + 1, [], _, k => by rw [show _ = [] from k]; simp [Reps]
  | n + 1, _ :: l, _, ⟨c, r, e, hc, hr⟩ => by
    have := Reps.take n hr
    refine ⟨c, r.take (n * Rep.sz α), ?_, hc, this⟩
    rw [e, Nat.add_mul, Nat.one_mul, Nat.add_comm, List.take_append, Rep.len hc]
    simp [List.take_of_length_le (show c.length ≤ Rep.sz α + n * Rep.sz α by rw [Rep.len hc]; omega)]
theorem Reps.get [Rep α] {I : Imm} (n : Nat) {l : List α} {xs} (h : Reps I l xs) (hn : n < l.length) :
    ∃ c, Rep.cells I l[n] c ∧ (xs.drop (n * Rep.sz α)).take (Rep.sz α) = c ∧ ∀ j u, c[j]? = some u → xs[n * Rep.sz α + j]? = some u := by
  have h1 := Reps.drop n h
  rw [List.drop_eq_getElem_cons hn] at h1
  obtain ⟨c, r, e, hc, hr⟩ := h1
  refine ⟨c, hc, ?_, fun j u hj => ?_⟩
  · rw [e, List.take_left' (Rep.len hc)]
  · have : (xs.drop (n * Rep.sz α))[j]? = some u := by
      rw [e, List.getElem?_append_left (List.getElem?_eq_some_iff.1 hj).1]; exact hj
    simpa using this

/-- what a call owns: a block of cells; a row that may grow -/
inductive Item where
  | blk (b : Nat) (cs : List Value) (e : TypeId)
  | row (sz : Nat) (e : TypeId) (v : Value) (n : Nat) (xs : List Value)
  | obj (b : Nat) (o : Obj)

/-- a row that may grow: its cells stand at the head of a block of the call's own, which has room for as many as its capacity says (or more) -/
def OwnsRow (w : World) (e : TypeId) (size : Nat) (v : Value) (n : Nat) (xs : List Value) : Prop :=
  xs.length = n * size ∧
  ((v = .slice none 0 0 ∧ n = 0) ∨
   ∃ g cap cur, v = .slice (some ⟨g, 0, none⟩) n cap ∧ w.heap[g]? = some (.cells cur e (0, 0)) ∧ n ≤ cap ∧ cap ≤ maxLen ∧ cap * size ≤ cur.size ∧ cur.toList.take (n * size) = xs)
theorem OwnsRow.nil (w : World) (e : TypeId) (size : Nat) : OwnsRow w e size (.slice none 0 0) 0 [] := ⟨by simp, .inl ⟨rfl, rfl⟩⟩
theorem OwnsRow.lt {w : World} {e : TypeId} {size n : Nat} {v : Value} {xs : List Value} (h : OwnsRow w e size v n xs) : ∀ k, v.ownBlock = some k → k < w.heap.size := by
  intro k hk
  rcases h.2 with ⟨rfl, _⟩ | ⟨g, cap, cur, rfl, hg, _⟩
  · simp [Value.ownBlock] at hk
  · simp [Value.ownBlock] at hk
    subst hk
    exact (Array.getElem?_eq_some_iff.1 hg).1
theorem OwnsRow.cells {w : World} {e : TypeId} {size n : Nat} {v : Value} {xs : List Value} (h : OwnsRow w e size v n xs) {g : Nat} (hg : v.ownBlock = some g) : ∀ j u, xs[j]? = some u → w.cell? ((⟨g, 0, none⟩ : Addr).add j) = some u := by
  intro j u hu
  rcases h.2 with ⟨rfl, _⟩ | ⟨g', cap, cur, rfl, hgg, _, _, _, htake⟩
  · simp [Value.ownBlock] at hg
  · simp [Value.ownBlock] at hg
    subst hg
    have hadd : (⟨g', 0, none⟩ : Addr).add j = ⟨g', j, none⟩ := by unfold Addr.add; split <;> simp_all
    rw [hadd, cell_of_row w g' j cur e (0, 0) hgg]
    rw [← htake, List.getElem?_take] at hu
    split at hu
    · simpa using hu
    · cases hu
/-- fewer elements, less capacity -/
theorem OwnsRow.limit {w : World} {e : TypeId} {size n c : Nat} {ad : Option Addr} {xs : List Value} (h : OwnsRow w e size (.slice ad n c) n xs) (n' c' : Nat) (h1 : n' ≤ n) (h2 : n' ≤ c') (h3 : c' ≤ c) : OwnsRow w e size (.slice ad n' c') n' (xs.take (n' * size)) := by
  have hle : n' * size ≤ n * size := Nat.mul_le_mul_right _ h1
  refine ⟨by rw [List.length_take, h.1]; omega, ?_⟩
  rcases h.2 with ⟨e, rfl⟩ | ⟨g, cap, cur, e, hg, hc, hm, hs, ht⟩
  · cases e
    obtain rfl : n' = 0 := by omega
    obtain rfl : c' = 0 := by omega
    exact .inl ⟨rfl, rfl⟩
  · cases e
    refine .inr ⟨g, c', cur, rfl, hg, h2, Nat.le_trans h3 hm, Nat.le_trans (Nat.mul_le_mul_right _ h3) hs, ?_⟩
    rw [← ht, List.take_take, Nat.min_eq_left hle]

def Item.block : Item → Option Nat
  | .blk b _ _ => some b
  | .row _ _ v _ _ => v.ownBlock
  | .obj b _ => some b
def Item.holds (w : World) : Item → Prop
  | .blk b cs e => w.heap[b]? = some (.cells cs.toArray e (0, 0))
  | .row sz e v n xs => OwnsRow w e sz v n xs
  | .obj b o => w.heap[b]? = some o
def blocks (L : List Item) : List Nat := L.filterMap Item.block

theorem Item.holds.lt {w : World} {it : Item} (h : it.holds w) {b : Nat} (hb : it.block = some b) : b < w.heap.size := by
  cases it with
  | blk b' cs e =>
    cases hb
    exact (Array.getElem?_eq_some_iff.1 (show w.heap[b]? = _ from h)).1
  | row sz e v n xs => exact OwnsRow.lt (show OwnsRow w e sz v n xs from h) b hb
  | obj b' o =>
    cases hb
    exact (Array.getElem?_eq_some_iff.1 (show w.heap[b]? = _ from h)).1

theorem ownsRow_of_block {w w' : World} {sz n : Nat} {e : TypeId} {v : Value} {xs : List Value} (h : OwnsRow w e sz v n xs)
    (hb : ∀ b, v.ownBlock = some b → w'.heap[b]? = w.heap[b]?) : OwnsRow w' e sz v n xs := by
  obtain ⟨h1, h2⟩ := h
  refine ⟨h1, ?_⟩
  rcases h2 with h2 | ⟨g, cap, cur, hv, hh, r⟩
  · exact .inl h2
  · subst hv
    exact .inr ⟨g, cap, cur, rfl, by rw [hb g rfl]; exact hh, r⟩

theorem Item.holds.same {w w' : World} {it : Item} (h : it.holds w) (hb : ∀ b, it.block = some b → w'.heap[b]? = w.heap[b]?) : it.holds w' := by
  cases it with
  | blk b' cs e => exact (hb b' rfl).trans h
  | row sz e v n xs => exact ownsRow_of_block (show OwnsRow w e sz v n xs from h) hb
  | obj b' o => exact (hb b' rfl).trans h

structure Init (I : Imm) (L : List Item) (w : World) : Prop where
  hI : I.Holds w
  holds : ∀ it ∈ L, it.holds w
  imm : ∀ b ∈ blocks L, I b = none
  nodup : (blocks L).Nodup

/-- from the items L0 at w0 a call has come to the items L at w -/
structure Nx (L0 : List Item) (I0 : Imm) (w0 : World) (I : Imm) (L : List Item) (w : World) : Prop extends Init I L w where
  ev : Ev (fun b => b ∈ blocks L0) I0 w0 I w
  own : ∀ b ∈ blocks L, b ∈ blocks L0 ∨ w0.heap.size ≤ b

theorem mem_blocks {L : List Item} {b : Nat} : b ∈ blocks L ↔ ∃ it ∈ L, it.block = some b := by simp [blocks, List.mem_filterMap]
theorem blocks_append (L M : List Item) : blocks (L ++ M) = blocks L ++ blocks M := by simp [blocks, List.filterMap_append]

theorem Init.lt {I : Imm} {L : List Item} {w : World} (h : Init I L w) {b : Nat} (hb : b ∈ blocks L) : b < w.heap.size := by
  obtain ⟨it, hm, e⟩ := mem_blocks.1 hb
  exact (h.holds it hm).lt e
theorem Init.nx {I : Imm} {L : List Item} {w : World} (h : Init I L w) : Nx L I w I L w := ⟨h, Ev.refl h.hI, fun _ hb => .inl hb⟩
theorem Init.nil {I : Imm} {w : World} (h : I.Holds w) : Init I [] w := ⟨h, by simp, by simp [blocks], by simp [blocks]⟩

theorem Init.left {I : Imm} {L M : List Item} {w : World} (h : Init I (L ++ M) w) : Init I L w :=
  ⟨h.hI, fun it hm => h.holds it (List.mem_append_left _ hm), fun b hb => h.imm b (by rw [blocks_append]; exact List.mem_append_left _ hb),
   by have := h.nodup; rw [blocks_append] at this; exact (List.nodup_append.1 this).1⟩
theorem Init.perm {I : Imm} {L M : List Item} {w : World} (h : Init I L w) (p : L.Perm M) : Init I M w :=
  ⟨h.hI, fun it hm => h.holds it (p.mem_iff.2 hm), fun b hb => h.imm b ((p.filterMap _).mem_iff.2 hb), (p.filterMap _).nodup h.nodup⟩
theorem Nx.perm {L0 I0 w0 I L M w} (h : Nx L0 I0 w0 I L w) (p : L.Perm M) : Nx L0 I0 w0 I M w :=
  ⟨h.toInit.perm p, h.ev, fun b hb => h.own b ((p.filterMap _).mem_iff.2 hb)⟩
theorem Nx.left {L0 I0 w0 I L M w} (h : Nx L0 I0 w0 I (L ++ M) w) : Nx L0 I0 w0 I L w :=
  ⟨h.toInit.left, h.ev, fun b hb => h.own b (by rw [blocks_append]; exact List.mem_append_left _ hb)⟩

/-- a call with its own contract, framed -/
theorem Nx.call {L0 I0 w0 I L1 L2 w J L1' w'} (h : Nx L0 I0 w0 I (L1 ++ L2) w) (k : Nx L1 I w J L1' w') : Nx L0 I0 w0 J (L1' ++ L2) w' := by
  have hnd := h.nodup
  rw [blocks_append, List.nodup_append] at hnd
  have h2 : ∀ b ∈ blocks L2, b < w.heap.size ∧ b ∉ blocks L1 ∧ I b = none := fun b hb =>
    ⟨h.lt (by rw [blocks_append]; exact List.mem_append_right _ hb), fun hc => hnd.2.2 b hc b hb rfl, h.imm b (by rw [blocks_append]; exact List.mem_append_right _ hb)⟩
  refine ⟨⟨k.hI, ?_, ?_, ?_⟩, h.ev.trans k.ev ?_, ?_⟩
  · intro it hm
    rcases List.mem_append.1 hm with hm | hm
    · exact k.holds it hm
    · refine (h.holds it (List.mem_append_right _ hm)).same fun b hb => ?_
      obtain ⟨x, y, z⟩ := h2 b (mem_blocks.2 ⟨it, hm, hb⟩)
      exact k.ev.block b x y
  · intro b hb
    rw [blocks_append] at hb
    rcases List.mem_append.1 hb with hb | hb
    · exact k.imm b hb
    · obtain ⟨x, y, z⟩ := h2 b hb
      exact (k.ev.imm b x).trans z
  · rw [blocks_append, List.nodup_append]
    refine ⟨k.nodup, hnd.2.1, fun a ha b hb e => ?_⟩
    subst e
    obtain ⟨x, y, z⟩ := h2 a hb
    rcases k.own a ha with h' | h'
    · exact y h'
    · omega
  · intro n hn hlt
    rcases h.own n (by rw [blocks_append]; exact List.mem_append_left _ hn) with h' | h'
    · exact h'
    · omega
  · intro b hb
    rw [blocks_append] at hb
    have hs := h.ev.size
    rcases List.mem_append.1 hb with hb | hb
    · rcases k.own b hb with h' | h'
      · exact h.own b (by rw [blocks_append]; exact List.mem_append_left _ h')
      · right; omega
    · exact h.own b (by rw [blocks_append]; exact List.mem_append_right _ hb)

/-- a call that changes nothing that was there -/
theorem Nx.pure {L0 I0 w0 I L w J M w'} (h : Nx L0 I0 w0 I L w) (k : Nx [] I w J M w') : Nx L0 I0 w0 J (M ++ L) w' := Nx.call (L1 := []) h k
theorem Nx.below {I : Imm} {w w' : World} (hI : I.Holds w) (h : Below w.heap.size w w') : Nx [] I w I [] w' :=
  ⟨Init.nil (Ev.of_below (F := None') h hI).holds, Ev.of_below h hI, by simp [blocks]⟩
theorem Nx.skip {L0 I0 w0 I L w w'} (h : Nx L0 I0 w0 I L w) (k : Below w.heap.size w w') : Nx L0 I0 w0 I L w' := by
  simpa using h.pure (Nx.below h.hI k)
theorem Nx.drew {L0 I0 w0 I L w} (h : Nx L0 I0 w0 I L w) : Nx L0 I0 w0 I L w.drew := h.skip (Below.drew (Below.refl _ _))

theorem Nx.alloc {L0 I0 w0 I L w} (h : Nx L0 I0 w0 I L w) (cs : List Value) (e : TypeId) :
    Nx L0 I0 w0 I (.blk w.heap.size cs e :: L) (w.alloc (.cells cs.toArray e)) := by
  have hb : Below w.heap.size w (w.alloc (.cells cs.toArray e)) := (Below.refl _ w).alloc (Nat.le_refl _) _
  have k : Nx [] I w I [.blk w.heap.size cs e] (w.alloc (.cells cs.toArray e)) := by
    refine ⟨⟨(Ev.of_below (F := None') hb h.hI).holds, ?_, ?_, by simp [blocks, Item.block]⟩, Ev.of_below hb h.hI, ?_⟩
    · intro it hm
      rw [List.mem_singleton] at hm
      subst hm
      exact heap_alloc_new w _
    · intro b hb
      simp [blocks, Item.block] at hb
      subst hb
      exact h.hI.out (Nat.le_refl _)
    · intro b hb
      simp [blocks, Item.block] at hb
      right; omega
  simpa using h.pure k

theorem Nx.allocObj {L0 I0 w0 I L w} (h : Nx L0 I0 w0 I L w) (o : Obj) : Nx L0 I0 w0 I (.obj w.heap.size o :: L) (w.alloc o) := by
  have hb : Below w.heap.size w (w.alloc o) := (Below.refl _ w).alloc (Nat.le_refl _) _
  have k : Nx [] I w I [.obj w.heap.size o] (w.alloc o) := by
    refine ⟨⟨(Ev.of_below (F := None') hb h.hI).holds, ?_, ?_, by simp [blocks, Item.block]⟩, Ev.of_below hb h.hI, ?_⟩
    · intro it hm
      rw [List.mem_singleton] at hm
      subst hm
      exact heap_alloc_new w _
    · intro b hb
      simp [blocks, Item.block] at hb
      subst hb
      exact h.hI.out (Nat.le_refl _)
    · intro b hb
      simp [blocks, Item.block] at hb
      right; omega
  simpa using h.pure k

theorem Nx.get {L0 I0 w0 I L w} (h : Nx L0 I0 w0 I L w) {i : Nat} {it : Item} (hi : L[i]? = some it) : it.holds w := h.holds it (List.mem_of_getElem? hi)

theorem cons_eraseIdx_perm {α : Type} : ∀ {l : List α} {i : Nat} (h : i < l.length), (l[i] :: l.eraseIdx i).Perm l
  | [], _, h => by simp at h
  | a :: l, 0, _ => by simp
  | a :: l, i + 1, h => by
    have := cons_eraseIdx_perm (l := l) (i := i) (by simpa using h)
    simp only [List.getElem_cons_succ, List.eraseIdx_cons_succ]
    exact (List.Perm.swap _ _ _).trans (this.cons a)
/-- a change of one item alone -/
theorem Nx.upd {L0 I0 w0 I L w w'} (h : Nx L0 I0 w0 I L w) {i : Nat} {it it' : Item} (hi : L[i]? = some it) (hg : ∀ k, k < w.heap.size → it.block ≠ some k → w'.heap[k]? = w.heap[k]?)
    (hos : w'.os = w.os) (ht : w'.tape = w.tape) (ho : w'.output = w.output) (hsz : w.heap.size ≤ w'.heap.size) (hh : it'.holds w') (hb : ∀ b, it'.block = some b → it.block = some b ∨ w.heap.size ≤ b) :
    Nx L0 I0 w0 I (L.set i it') w' := by
  have hp : L.Perm ([it] ++ L.eraseIdx i) := by
    obtain ⟨hlt, e⟩ := List.getElem?_eq_some_iff.1 hi
    have := cons_eraseIdx_perm hlt
    rw [e] at this
    exact this.symm
  have hp' : ([it'] ++ L.eraseIdx i).Perm (L.set i it') := by
    obtain ⟨hlt, e⟩ := List.getElem?_eq_some_iff.1 hi
    have h1 : i < (L.set i it').length := by simpa using hlt
    have := cons_eraseIdx_perm h1
    simpa [List.eraseIdx_set_eq] using this
  have h0 := h.perm hp
  refine (Nx.call (L1' := [it']) h0 ?_).perm hp'
  have hmem : ∀ b, b ∈ blocks [it] ↔ it.block = some b := fun b => by
    cases hb' : it.block <;> simp [blocks, hb', eq_comm]
  have hmem' : ∀ b, b ∈ blocks [it'] ↔ it'.block = some b := fun b => by
    cases hb' : it'.block <;> simp [blocks, hb', eq_comm]
  have hev : Ev (fun b => b ∈ blocks [it]) I w I w' :=
    ⟨hos, ht, ho, hsz, fun k hk hf => hg k hk (fun e => hf ((hmem k).2 e)), fun _ _ => rfl, fun b o x => by
      rw [hg b (h.hI.lt x) (fun e => by
        have := h.imm b (mem_blocks.2 ⟨it, List.mem_of_getElem? hi, e⟩)
        rw [this] at x; cases x)]
      exact h.hI b o x⟩
  refine ⟨⟨hev.holds, ?_, ?_, ?_⟩, hev, ?_⟩
  · intro x hx
    rw [List.mem_singleton] at hx
    subst hx
    exact hh
  · intro b hb'
    rcases hb b ((hmem' b).1 hb') with h' | h'
    · exact h.imm b (mem_blocks.2 ⟨it, List.mem_of_getElem? hi, h'⟩)
    · exact h.hI.out h'
  · cases hb' : it'.block <;> simp [blocks, hb']
  · intro b hb'
    rcases hb b ((hmem' b).1 hb') with h' | h'
    · exact .inl ((hmem b).2 h')
    · exact .inr h'

theorem Nx.grown {L0 I0 w0 I L w w'} (h : Nx L0 I0 w0 I L w) {i : Nat} {sz n n' : Nat} {e : TypeId} {v v' : Value} {xs xs' : List Value} (hi : L[i]? = some (.row sz e v n xs))
    (hg : w.grownBy w' v.ownBlock) (ho : OwnsRow w' e sz v' n' xs') (hb : ∀ b, v'.ownBlock = some b → v.ownBlock = some b ∨ w.heap.size ≤ b) :
    Nx L0 I0 w0 I (L.set i (.row sz e v' n' xs')) w' :=
  h.upd hi (fun k hk hne => hg.block k hk (fun e' => hne e'.symm)) hg.os hg.tape hg.output hg.size ho hb

/-- a row is cut short -/
theorem Nx.limit {L0 I0 w0 I L w} (h : Nx L0 I0 w0 I L w) {i : Nat} {sz n c : Nat} {e : TypeId} {ad : Option Addr} {xs : List Value} (hi : L[i]? = some (.row sz e (.slice ad n c) n xs)) (n' c' : Nat) (h1 : n' ≤ n) (h2 : n' ≤ c') (h3 : c' ≤ c) :
    Nx L0 I0 w0 I (L.set i (.row sz e (.slice ad n' c') n' (xs.take (n' * sz)))) w := by
  have hr : OwnsRow w e sz (.slice ad n c) n xs := h.get hi
  refine h.upd hi (fun _ _ _ => rfl) rfl rfl rfl (Nat.le_refl _) (hr.limit n' c' h1 h2 h3) (fun b hb => .inl (by cases ad <;> exact hb))

theorem Nx.putObj {L0 I0 w0 I L w} (h : Nx L0 I0 w0 I L w) {i b : Nat} {o : Obj} (hi : L[i]? = some (.obj b o)) (o' : Obj) : Nx L0 I0 w0 I (L.set i (.obj b o')) (w.putObj b o') := by
  have hb : w.heap[b]? = some o := h.get hi
  have hlt : b < w.heap.size := (Array.getElem?_eq_some_iff.1 hb).1
  refine h.upd hi (fun k hk hne => World.putObj_heap_other (fun e' => hne (by rw [e']; rfl))) rfl rfl rfl (by simp [World.putObj]) (World.putObj_heap_same hlt) (fun b' hb' => .inl hb')
end Go.Proofs.YtmlgieclkedomaaGreat

namespace Go.Proofs.YtmlgieclkedomaaGreat
open Go Go.RowKit

section
variable {P : Program} {ρ : Operand → Value} {o : Oper} {w : World}

theorem ex_alloc (T : TypeId) (ho : o.op = .alloc T) (z : Value) (hz : (P.info? T).bind (·.zero) = some z) :
    (execOp ρ o).run P w = .ok (.value (.pointer (some ⟨w.heap.size, 0, none⟩))) (w.alloc (.cells z.cells.toList.toArray T)) := by
  obtain ⟨i, hi, hz'⟩ := Option.bind_eq_some_iff.1 hz
  simp [execOp, ho, Instr.alloc, zeroValue, typeInfo, hi, hz', newVar, newRow, go_sem]

theorem ex_box (T : TypeId) (x : Operand) (ho : o.op = .box T x) :
    (execOp ρ o).run P w = .ok (.value (.pointer (some ⟨w.heap.size, 0, none⟩))) (w.alloc (.cells (ρ x).cells.toList.toArray T)) := by
  simp [execOp, ho, Instr.box, newVar, newRow, go_sem]

def scalar (P : Program) (t : TypeId) : Bool := match P.underlying t with | some (.struct _) | some (.array _ _) | none => false | _ => true
def aggr (P : Program) (t : TypeId) (n : Nat) : Bool := (match P.underlying t with | some (.struct _) | some (.array _ _) => true | _ => false) && (P.info? t).map (·.size) == some n

theorem ex_load (T : TypeId) (x : Operand) (ho : o.op = .load T x) (hs : scalar P T = true) (b j : Nat) (hx : ρ x = .pointer (some ⟨b, j, none⟩)) (v : Value) (hc : w.cell? ⟨b, j, none⟩ = some v) :
    (execOp ρ o).run P w = .ok (.value v) w := by
  unfold scalar at hs
  cases hu : P.underlying T with
  | none => rw [hu] at hs; cases hs
  | some d =>
    have hagg : (isAgg T).run P w = .ok false w := by
      unfold isAgg
      rw [Sem.run_bind, run_underlying hu w]
      cases d <;> simp_all
    simp [execOp, ho, hx, Instr.loadAt, Instr.sureAddr, loadVar, hagg, hc, go_sem]

theorem ex_loadA (T : TypeId) (x : Operand) (ho : o.op = .load T x) (vs : List Value) (hs : aggr P T vs.length = true) (b j : Nat) (hx : ρ x = .pointer (some ⟨b, j, none⟩))
    (hc : ∀ i u, vs[i]? = some u → w.cell? ⟨b, j + i, none⟩ = some u) :
    (execOp ρ o).run P w = .ok (.value (.agg vs.toArray)) w := by
  unfold aggr at hs
  rw [Bool.and_eq_true, beq_iff_eq] at hs
  obtain ⟨h1, h2⟩ := hs
  obtain ⟨i, hi, hz'⟩ := Option.map_eq_some_iff.1 h2
  have hagg : (isAgg T).run P w = .ok true w := by
    unfold isAgg
    cases hu : P.underlying T with
    | none => rw [hu] at h1; cases h1
    | some d =>
      rw [Sem.run_bind, run_underlying hu w]
      cases d <;> simp_all
  have hl := run_loadCells_list (P := P) (w := w) ⟨b, j, none⟩ vs (fun i u hu => by rw [Addr.add_lit]; exact hc i u hu)
  unfold loadCells at hl
  simp [execOp, ho, hx, Instr.loadAt, Instr.sureAddr, loadVar, hagg, sizeOf, typeInfo, hi, hz', hl, go_sem, Result.andThen]

theorem ex_storeA (T : TypeId) (x y : Operand) (ho : o.op = .store T x y) (vs : List Value) (hs : (P.info? T).map (·.size) = some vs.length) (b j : Nat) (hx : ρ x = .pointer (some ⟨b, j, none⟩))
    (v : Value) (hy : ρ y = v) (hv : v.cells.toList = vs) (h1 : ∀ u ∈ vs, u.oneCell' = true) (cs : List Value) (e : TypeId) (hb : w.heap[b]? = some (.cells cs.toArray e (0, 0))) (hl : j + vs.length ≤ cs.length) :
    (execOp ρ o).run P w = .ok .skip (w.setRow b (cs.take j ++ vs ++ cs.drop (j + vs.length)).toArray) := by
  obtain ⟨i, hi, hz'⟩ := Option.map_eq_some_iff.1 hs
  have hsz : v.cells.size = vs.length := by rw [← hv]; simp
  have hst := run_storeCells_at P b j e vs 0 cs.toArray w hb (by simpa using hl) h1
  simp only [Nat.add_zero] at hst
  have hvar : (storeVar T ⟨b, j, none⟩ v).run P w = .ok () (w.setRow b (cs.take j ++ vs ++ cs.drop (j + vs.length)).toArray) := by
    have hsz' : (sizeOf T).run P w = .ok vs.length w := by simp [sizeOf, typeInfo, hi, hz', go_sem]
    unfold storeVar
    rw [Sem.run_bind, hsz']
    simp [Result.andThen, hsz, hv, hst]
  simp only [execOp, ho, hx, hy, Instr.storeAt, Instr.sureAddr, Sem.run_bind, Sem.run_pure, Result.andThen_ok, hvar]
end

/-- cells that are never written again -/
def Imm.At (I : Imm) (b j : Nat) (vs : List Value) : Prop := ∃ cur e fr, I b = some (.cells cur e fr) ∧ ∀ i u, vs[i]? = some u → cur[j + i]? = some u
theorem Imm.At.cell {I : Imm} {b j : Nat} {vs : List Value} (h : I.At b j vs) {w : World} (hI : I.Holds w) (i : Nat) {u : Value} (hu : vs[i]? = some u) : w.cell? ⟨b, j + i, none⟩ = some u := by
  obtain ⟨cur, e, fr, hb, hc⟩ := h
  exact hI.cell hb (hc i u hu)
theorem Imm.At.mono {I J : Imm} {b j : Nat} {vs : List Value} (h : I.At b j vs) (k : I.Le J) : J.At b j vs := by
  obtain ⟨cur, e, fr, hb, hc⟩ := h
  exact ⟨cur, e, fr, k _ _ hb, hc⟩
/-- where what is appended lies -/
def Src (w : World) (ad : Option Addr) (news : List Value) : Prop := (True ∧ news = []) ∨ ∃ b j, ad = some ⟨b, j, none⟩ ∧ ∀ i u, news[i]? = some u → w.cell? ⟨b, j + i, none⟩ = some u
def sliceInfo (P : Program) (e : TypeId) (sz bytes : Nat) : Bool := decide (0 < sz) && (match P.info? e with | some i => i.size == sz && i.bytes == bytes && (match i.zero with | some z => z.cells.size == sz | none => false) | none => false)

theorem run_append_src {P : Program} {L0 : List Item} {I0 I : Imm} {w0 w : World} {L : List Item} (h : Nx L0 I0 w0 I L w) {e t : TypeId} {sz bytes : Nat} (hi : sliceInfo P e sz bytes = true) (ht : P.underlying t = some (.slice e))
    {i : Nat} {v : Value} {m : Nat} {xs : List Value} (hrow : L[i]? = some (.row sz e v m xs)) (ad : Option Addr) (m' c : Nat) (news : List Value) (hl : news.length = m' * sz) (hsrc : Src w ad news)
    (h1 : ∀ u ∈ news, u.oneCell' = true) (hbytes : (m + m') * bytes ≤ 140737488355328) (hb0 : 0 < bytes) :
    ∃ v' w', (∀ ty, (Builtin.append_ #[t, t] ty #[v, .slice ad m' c]).run P w = .ok v' w') ∧ OwnsRow w' e sz v' (m + m') (xs ++ news) ∧ w.grownBy w' v.ownBlock ∧ (v' = .slice none 0 0 ↔ v = .slice none 0 0 ∧ m' = 0) ∧
      ∀ b, v'.ownBlock = some b → v.ownBlock = some b ∨ w.heap.size ≤ b := by
  have hown : OwnsRow w e sz v m xs := h.get hrow
  unfold sliceInfo at hi
  rw [Bool.and_eq_true, decide_eq_true_eq] at hi
  obtain ⟨hsz, hi⟩ := hi
  cases hinfo : P.info? e with
  | none => rw [hinfo] at hi; cases hi
  | some inf =>
    rw [hinfo] at hi
    simp only [Bool.and_eq_true, beq_iff_eq] at hi
    obtain ⟨⟨rfl, rfl⟩, hz⟩ := hi
    cases hzz : inf.zero with
    | none => rw [hzz] at hz; cases hz
    | some z =>
      rw [hzz] at hz
      rw [beq_iff_eq] at hz
      rcases hsrc with ⟨_, rfl⟩ | ⟨b, j, rfl, hc⟩
      · have hm0 : m' = 0 := by
          rcases Nat.mul_eq_zero.1 (show m' * inf.size = 0 by simpa using hl.symm) with h0 | h0 <;> omega
        subst hm0
        refine ⟨v, w, fun ty => ?_, by simpa using hown, ⟨rfl, rfl, rfl, Nat.le_refl _, fun _ _ _ => rfl⟩, by simp, fun b hb => .inl hb⟩
        rcases hown.2 with ⟨rfl, rfl⟩ | ⟨g, cap, cur, rfl, _, hnc, _⟩
        · cases ad <;> simp [Builtin.append_, run_underlying ht, sizeOf, typeInfo, hinfo, Builtin.lenOf, Builtin.firstCells, loadCells, loadCellsFrom]
        · cases ad <;> simp [Builtin.append_, run_underlying ht, sizeOf, typeInfo, hinfo, Builtin.lenOf, Builtin.firstCells, hnc, loadCells, loadCellsFrom, storeCells]
      · have hnews : ∀ i u, news[i]? = some u → w.cell? ((⟨b, j, none⟩ : Addr).add i) = some u := fun i u hu => by rw [Addr.add_lit]; exact hc i u hu
        have h63 : m + m' ≤ maxLen := by
          have := Nat.le_trans (Nat.le_mul_of_pos_right (m + m') hb0) hbytes
          simp only [maxLen]; omega
        have hlen : (xs ++ news).length = (m + m') * inf.size := by rw [List.length_append, hown.1, hl, Nat.add_mul]
        have grown : ∀ (old : Nat), old < m + m' → ∀ (row : Option Nat),
            OwnsRow (w.drew.alloc (.cells (xs.toArray ++ news.toArray ++ Builtin.zeroCells z.cells (grownCap w (m + m') old e - (m + m'))) e)) e inf.size
              (.slice (some ⟨w.heap.size, 0, none⟩) (m + m') (grownCap w (m + m') old e)) (m + m') (xs ++ news) ∧
            w.grownBy (w.drew.alloc (.cells (xs.toArray ++ news.toArray ++ Builtin.zeroCells z.cells (grownCap w (m + m') old e - (m + m'))) e)) row := by
          intro old ho row
          have hge := grownCap_ge w (m + m') old e
          have hcm : grownCap w (m + m') old e ≤ maxLen := grownCap_le_maxLen w (m + m') old e h63
          refine ⟨⟨hlen, .inr ⟨w.heap.size, _, _, rfl, heap_alloc_new w.drew _, hge, hcm, ?_, ?_⟩⟩, ⟨rfl, rfl, rfl, by simp, fun k hk _ => by first | exact Go.heap_alloc_old w.drew _ k hk | exact heap_alloc_old w.drew _ hk⟩⟩
          · refine Nat.le_of_eq ?_
            simp only [Array.size_append, List.size_toArray, size_zeroCells, hz, hown.1, hl, ← Nat.add_mul]
            congr 1
            omega
          · simp only [Array.toList_append, List.append_assoc]
            rw [← List.append_assoc, ← hlen]
            exact List.take_left
        rcases hown.2 with ⟨rfl, rfl⟩ | ⟨g, cap, cur, rfl, hg, hnc, hcm, hcs, htake⟩
        · have hx : xs = [] := List.eq_nil_of_length_eq_zero (by simpa using hown.1)
          subst hx
          by_cases hm : m' = 0
          · subst hm
            have hn : news = [] := List.eq_nil_of_length_eq_zero (by simpa using hl)
            subst hn
            refine ⟨.slice none 0 0, w, fun ty => ?_, OwnsRow.nil w e inf.size, ⟨rfl, rfl, rfl, Nat.le_refl _, fun _ _ _ => rfl⟩, by simp, fun b hb => .inl hb⟩
            simp [Builtin.append_, run_underlying ht, sizeOf, typeInfo, hinfo, Builtin.lenOf, Builtin.firstCells, loadCells, loadCellsFrom]
          · have hr := fun ty => run_append_nil (P := P) w t ty e inf z ht hinfo hzz ⟨b, j, none⟩ m' c news hl hnews (by omega) (by simp only [maxLen] at h63; omega) (by have hb := hbytes; simp only [Nat.zero_add] at hb; omega)
            have hgr := grown 0 (by omega) (Value.ownBlock (.slice none 0 0))
            simp only [Nat.zero_add, List.nil_append, Array.empty_append] at hgr ⊢
            exact ⟨_, _, hr, hgr.1, hgr.2, by simp [hm], fun b hb => by simp [Value.ownBlock] at hb; right; omega⟩
        · by_cases hroom : m + m' ≤ cap
          · have hfit : m * inf.size + news.length ≤ cur.size := by rw [hl, ← Nat.add_mul]; exact Nat.le_trans (Nat.mul_le_mul_right _ hroom) hcs
            have hr := fun ty => run_append_room (P := P) w t ty e inf ht hinfo g m cap cur hg ⟨b, j, none⟩ m' c news hl hnews h1 hroom hfit
            refine ⟨_, _, hr, ⟨hlen, .inr ⟨g, cap, _, rfl, setRow_heap w g cur _ e _ hg, hroom, hcm, ?_, ?_⟩⟩, ⟨rfl, rfl, rfl, by simp, fun k _ hk => setRow_other w g k _ (fun e => hk (by simp [Value.ownBlock, e]))⟩, by simp, fun b hb => .inl (by simpa [Value.ownBlock] using hb)⟩
            · simp only [List.size_toArray, List.length_append, List.length_take, List.length_drop, Array.length_toList]
              omega
            · rw [htake, ← hlen]
              exact List.take_left
          · have holds : ∀ j u, xs[j]? = some u → w.cell? ((⟨g, 0, none⟩ : Addr).add j) = some u := hown.cells (g := g) rfl
            have hr := fun ty => run_append_grow (P := P) w t ty e inf z ht hinfo hzz ⟨g, 0, none⟩ m cap xs hown.1 holds ⟨b, j, none⟩ m' c news hl hnews (by omega) (by simp only [maxLen] at h63; omega) (growslice_fits (by omega) hbytes)
            have hgr := grown cap (by omega) (Value.ownBlock (.slice (some ⟨g, 0, none⟩) m cap))
            exact ⟨_, _, hr, hgr.1, hgr.2, by simp, fun b hb => by simp [Value.ownBlock] at hb; right; omega⟩

class ZeroC (P : Program) (T : TypeId) (cs : outParam (List Value)) : Prop where
  pf : ((P.info? T).bind (·.zero)).map (·.cells.toList) = some cs
class Scal (P : Program) (T : TypeId) : Prop where
  pf : scalar P T = true
class Aggr (P : Program) (T : TypeId) (n : outParam Nat) : Prop where
  pf : aggr P T n = true
class Size (P : Program) (T : TypeId) (n : outParam Nat) : Prop where
  pf : (P.info? T).map (·.size) = some n
class SliceT (P : Program) (T : TypeId) (e sz bytes : outParam Nat) : Prop where
  u : P.underlying T = some (.slice e)
  i : sliceInfo P e sz bytes = true
  pos : 0 < bytes
theorem cells_one {v : Value} (h : v.oneCell' = true) : v.cells.toList = [v] := by cases v <;> first | rfl | (simp [Value.oneCell'] at h)
theorem Nx.setRow {L0 : List Item} {I0 I : Imm} {w0 w : World} {L : List Item} (h : Nx L0 I0 w0 I L w) {i b : Nat} {cs : List Value} {e : TypeId} (hi : L[i]? = some (.blk b cs e)) (cs' : List Value) :
    Nx L0 I0 w0 I (L.set i (.blk b cs' e)) (w.setRow b cs'.toArray) := by
  have hb : w.heap[b]? = some (.cells cs.toArray e (0, 0)) := h.get hi
  refine h.upd hi (fun k hk hne => setRow_other w b k _ (fun e' => hne (by rw [e']; rfl))) rfl rfl rfl (by simp) ?_ (fun b' hb' => .inl hb')
  exact setRow_heap w b _ _ e _ hb

section
variable {P : Program} {ops : Array Oper} {Q : Exit → Act → World → Prop} {a : Act} {w : World} {rest : List Oper} {o : Oper} {L0 : List Item} {I0 I : Imm} {w0 : World} {L : List Item}

theorem wpL_of (hg : Region.wanted o (yielded ops a.tmps) = true) {v : Value} {w' : World} (hr : (execOp a.eval o).run P w = .ok (.value v) w')
    (_ha : ∀ (ro : Option Nat) (ρ : Operand → Value), Oper.semAt ro ρ o = execOp ρ o) (_hab : ∀ ρ : Operand → Value, o.about P w ρ = none) (h : wpList P ops Q rest (a.put o.dst v) w') : wpList P ops Q (o :: rest) a w :=
  wpList_step fun K hK => by rw [if_pos hg]; unfold Oper.wp; rw [hr]; exact hK _ _ h

theorem wpL_skip (hg : Region.wanted o (yielded ops a.tmps) = true) {w' : World} (hr : (execOp a.eval o).run P w = .ok .skip w')
    (_ha : ∀ (ro : Option Nat) (ρ : Operand → Value), Oper.semAt ro ρ o = execOp ρ o) (_hab : ∀ ρ : Operand → Value, o.about P w ρ = none) (h : wpList P ops Q rest (a.put o.dst undef) w') : wpList P ops Q (o :: rest) a w :=
  wpList_step fun K hK => by rw [if_pos hg]; unfold Oper.wp; rw [hr]; exact hK _ _ h

theorem sL_alloc (h : Nx L0 I0 w0 I L w) (hg : Region.wanted o (yielded ops a.tmps) = true) (T : TypeId) (ho : o.op = .alloc T) {cs : List Value} [hz : ZeroC P T cs]
    (k : ∀ b w', w0.heap.size ≤ b → Nx L0 I0 w0 I (.blk b cs T :: L) w' → wpList P ops Q rest (a.put o.dst (.pointer (some ⟨b, 0, none⟩))) w') : wpList P ops Q (o :: rest) a w :=
  have ⟨z, hz1, hcs⟩ := Option.map_eq_some_iff.1 hz.pf
  wpL_of hg (ex_alloc T ho z hz1) (fun _ _ => Oper.semAt_eq _ _ _ (by simp [ho])) (fun _ => by simp [Oper.about, ho]) (by rw [hcs]; exact k _ _ h.ev.size (h.alloc _ _))

theorem sL_box (h : Nx L0 I0 w0 I L w) (hg : Region.wanted o (yielded ops a.tmps) = true) (T : TypeId) (x : Operand) (ho : o.op = .box T x) (cs : List Value) (hcs : (a.eval x).cells.toList = cs)
    (k : ∀ b w', w0.heap.size ≤ b → Nx L0 I0 w0 I (.blk b cs T :: L) w' → wpList P ops Q rest (a.put o.dst (.pointer (some ⟨b, 0, none⟩))) w') : wpList P ops Q (o :: rest) a w :=
  wpL_of hg (ex_box T x ho) (fun _ _ => Oper.semAt_eq _ _ _ (by simp [ho])) (fun _ => by simp [Oper.about, ho]) (by subst hcs; exact k _ _ h.ev.size (h.alloc _ _))

theorem sL_load (h : Nx L0 I0 w0 I L w) (hg : Region.wanted o (yielded ops a.tmps) = true) (T : TypeId) (x : Operand) (ho : o.op = .load T x) (b j : Nat) (hx : a.eval x = .pointer (some ⟨b, j, none⟩))
    (i : Nat) (cs : List Value) (e : TypeId) (hi : L[i]? = some (.blk b cs e)) (v : Value) (hv : cs[j]? = some v) [hs : Scal P T]
    (k : wpList P ops Q rest (a.put o.dst v) w) : wpList P ops Q (o :: rest) a w :=
  wpL_of hg (ex_load T x ho hs.pf b j hx v (by have := h.get hi; simp [World.cell?, show w.heap[b]? = _ from this, hv])) (fun _ _ => Oper.semAt_eq _ _ _ (by simp [ho])) (fun _ => by simp [Oper.about, ho]) k

theorem sL_loadA (h : Nx L0 I0 w0 I L w) (hg : Region.wanted o (yielded ops a.tmps) = true) (T : TypeId) (x : Operand) (ho : o.op = .load T x) (b j : Nat) (hx : a.eval x = .pointer (some ⟨b, j, none⟩))
    (i : Nat) (cs : List Value) (e : TypeId) (hi : L[i]? = some (.blk b cs e)) {m : Nat} [hs : Aggr P T m] (vs : List Value) (hv : (cs.drop j).take m = vs) (hm : vs.length = m)
    (k : wpList P ops Q rest (a.put o.dst (.agg vs.toArray)) w) : wpList P ops Q (o :: rest) a w :=
  wpL_of hg (ex_loadA T x ho vs (by rw [hm]; exact hs.pf) b j hx (fun i' u hu => by
    have := h.get hi
    simp only [World.cell?, show w.heap[b]? = _ from this]
    rw [← hv, List.getElem?_take] at hu
    split at hu
    · simpa using hu
    · cases hu)) (fun _ _ => Oper.semAt_eq _ _ _ (by simp [ho])) (fun _ => by simp [Oper.about, ho]) k

theorem sL_storeA (h : Nx L0 I0 w0 I L w) (hg : Region.wanted o (yielded ops a.tmps) = true) (T : TypeId) (x y : Operand) (ho : o.op = .store T x y) (b j : Nat) (hx : a.eval x = .pointer (some ⟨b, j, none⟩))
    (i : Nat) (cs : List Value) (e : TypeId) (hi : L[i]? = some (.blk b cs e)) (v : Value) (hy : a.eval y = v) (vs : List Value) (hv : v.cells.toList = vs) (hs : (P.info? T).map (·.size) = some vs.length)
    (h1 : ∀ u ∈ vs, u.oneCell' = true) (hl : j + vs.length ≤ cs.length) (cs' : List Value) (hcs : cs.take j ++ vs ++ cs.drop (j + vs.length) = cs') 
    (k : ∀ w', Nx L0 I0 w0 I (L.set i (.blk b cs' e)) w' → wpList P ops Q rest (a.put o.dst undef) w') : wpList P ops Q (o :: rest) a w :=
  wpL_skip hg (ex_storeA T x y ho vs hs b j hx v hy hv h1 cs e (h.get hi) hl) (fun _ _ => Oper.semAt_eq _ _ _ (by simp [ho])) (fun _ => by simp [Oper.about, ho]) (by subst hcs; exact k _ (h.setRow hi _))

/-- one cell -/
theorem sL_store (h : Nx L0 I0 w0 I L w) (hg : Region.wanted o (yielded ops a.tmps) = true) (T : TypeId) (x y : Operand) (ho : o.op = .store T x y) (b j : Nat) (hx : a.eval x = .pointer (some ⟨b, j, none⟩))
    (i : Nat) (cs : List Value) (e : TypeId) (hi : L[i]? = some (.blk b cs e)) (v : Value) (hy : a.eval y = v) (h1 : v.oneCell' = true) [hs : Size P T 1]
    (hl : j < cs.length) (k : ∀ w', Nx L0 I0 w0 I (L.set i (.blk b (cs.set j v) e)) w' → wpList P ops Q rest (a.put o.dst undef) w') : wpList P ops Q (o :: rest) a w :=
  sL_storeA h hg T x y ho b j hx i cs e hi v hy [v] (cells_one h1) hs.pf (by simp [h1]) (by simp; omega) (cs.set j v) (by rw [List.set_eq_take_append_cons_drop, if_pos hl]; simp) k

theorem sL_loadIA (h : Nx L0 I0 w0 I L w) (hg : Region.wanted o (yielded ops a.tmps) = true) (T : TypeId) (x : Operand) (ho : o.op = .load T x) (b j : Nat) (hx : a.eval x = .pointer (some ⟨b, j, none⟩))
    {m : Nat} [hs : Aggr P T m] (vs : List Value) (hv : I.At b j vs) (hm : vs.length = m) (k : wpList P ops Q rest (a.put o.dst (.agg vs.toArray)) w) : wpList P ops Q (o :: rest) a w :=
  wpL_of hg (ex_loadA T x ho vs (by rw [hm]; exact hs.pf) b j hx (fun i u hu => hv.cell h.hI i hu)) (fun _ _ => Oper.semAt_eq _ _ _ (by simp [ho])) (fun _ => by simp [Oper.about, ho]) k

/-- append onto a row of the call's own; what is appended lies where 'At' says: in a block of the call's own, or in memory that is never written again -/
theorem sL_append (h : Nx L0 I0 w0 I L w) (hg : Region.wanted o (yielded ops a.tmps) = true) (s x : Operand) (t : TypeId) (ho : o.op = .call { callee := .builtin .append, args := #[s, x], argTypes := #[t, t] })
    {e : TypeId} {sz bytes : Nat} [hT : SliceT P t e sz bytes]
    (i : Nat) (v : Value) (m : Nat) (xs : List Value) (hrow : L[i]? = some (.row sz e v m xs)) (hs : a.eval s = v)
    (ad : Option Addr) (m' c : Nat) (news : List Value) (hx : a.eval x = .slice ad m' c) (hl : news.length = m' * sz) (hsrc : Src w ad news) (h1 : ∀ u ∈ news, u.oneCell' = true)
    (hbytes : (m + m') * bytes ≤ 140737488355328)
    (k : ∀ ad' c' w', Nx L0 I0 w0 I (L.set i (.row sz e (.slice ad' (m + m') c') (m + m') (xs ++ news))) w' → (Value.slice ad' (m + m') c' = .slice none 0 0 ↔ v = .slice none 0 0 ∧ m' = 0) →
      (∀ g, (Value.slice ad' (m + m') c').ownBlock = some g → v.ownBlock = some g ∨ w0.heap.size ≤ g) → wpList P ops Q rest (a.put o.dst (.slice ad' (m + m') c')) w') : wpList P ops Q (o :: rest) a w := by
  obtain ⟨v', w', hr, ho', hg', hn, hf⟩ := run_append_src (P := P) h hT.i hT.u hrow ad m' c news hl hsrc h1 hbytes hT.pos
  have he : (execOp a.eval o).run P w = .ok (.value v') w' := by
    simp only [execOp, ho, resolve, invoke, builtin, Sem.run_bind, Sem.run_pure, Result.andThen_ok, List.map_toArray, List.map_cons, List.map_nil, hs, hx, hr]
  obtain ⟨ad', c', rfl⟩ : ∃ ad' c', v' = .slice ad' (m + m') c' := by
    rcases ho'.2 with ⟨e1, e2⟩ | ⟨g, cap, cur, e1, _⟩
    · exact ⟨none, 0, by rw [e2]; exact e1⟩
    · exact ⟨_, _, e1⟩
  refine wpL_of hg he (fun _ _ => Oper.semAt_eq _ _ _ (by simp [ho])) (fun ρ => ?_) (k ad' c' w' (h.grown hrow hg' ho' hf) hn (fun g hg2 => (hf g hg2).imp id (fun hh => Nat.le_trans h.ev.size hh)))
  simp [Oper.about, ho, resolve, Target.leads]
end

section
variable {F : Fence} {n : Nat} {P : Program} {ops : Array Oper} {Q : Exit → Act → World → Prop} {a : Act} {w : World} {rest : List Oper} {o : Oper} {L0 : List Item} {I0 I : Imm} {w0 : World} {L : List Item}

theorem wpN_of (hg : Region.wanted o (yielded ops a.tmps) = true) {v : Value} {w' : World} (hr : (execOp a.eval o).run P w = .ok (.value v) w')
    (ha : ∀ (ro : Option Nat) (ρ : Operand → Value), Oper.semAt ro ρ o = execOp ρ o) (hab : ∀ ρ : Operand → Value, o.about P w ρ = none) (h : wpListIn F n P ops Q rest (a.put o.dst v) w') : wpListIn F n P ops Q (o :: rest) a w :=
  wpListIn_step fun K hK => by rw [if_pos hg]; refine ⟨fun f hf => (by rw [hab] at hf; cases hf), ?_⟩; rw [ha, hr]; exact hK _ _ h

theorem wpN_skip (hg : Region.wanted o (yielded ops a.tmps) = true) {w' : World} (hr : (execOp a.eval o).run P w = .ok .skip w')
    (ha : ∀ (ro : Option Nat) (ρ : Operand → Value), Oper.semAt ro ρ o = execOp ρ o) (hab : ∀ ρ : Operand → Value, o.about P w ρ = none) (h : wpListIn F n P ops Q rest (a.put o.dst undef) w') : wpListIn F n P ops Q (o :: rest) a w :=
  wpListIn_step fun K hK => by rw [if_pos hg]; refine ⟨fun f hf => (by rw [hab] at hf; cases hf), ?_⟩; rw [ha, hr]; exact hK _ _ h

theorem sN_alloc (h : Nx L0 I0 w0 I L w) (hg : Region.wanted o (yielded ops a.tmps) = true) (T : TypeId) (ho : o.op = .alloc T) {cs : List Value} [hz : ZeroC P T cs]
    (k : ∀ b w', w0.heap.size ≤ b → Nx L0 I0 w0 I (.blk b cs T :: L) w' → wpListIn F n P ops Q rest (a.put o.dst (.pointer (some ⟨b, 0, none⟩))) w') : wpListIn F n P ops Q (o :: rest) a w :=
  have ⟨z, hz1, hcs⟩ := Option.map_eq_some_iff.1 hz.pf
  wpN_of hg (ex_alloc T ho z hz1) (fun _ _ => Oper.semAt_eq _ _ _ (by simp [ho])) (fun _ => by simp [Oper.about, ho]) (by rw [hcs]; exact k _ _ h.ev.size (h.alloc _ _))

theorem sN_box (h : Nx L0 I0 w0 I L w) (hg : Region.wanted o (yielded ops a.tmps) = true) (T : TypeId) (x : Operand) (ho : o.op = .box T x) (cs : List Value) (hcs : (a.eval x).cells.toList = cs)
    (k : ∀ b w', w0.heap.size ≤ b → Nx L0 I0 w0 I (.blk b cs T :: L) w' → wpListIn F n P ops Q rest (a.put o.dst (.pointer (some ⟨b, 0, none⟩))) w') : wpListIn F n P ops Q (o :: rest) a w :=
  wpN_of hg (ex_box T x ho) (fun _ _ => Oper.semAt_eq _ _ _ (by simp [ho])) (fun _ => by simp [Oper.about, ho]) (by subst hcs; exact k _ _ h.ev.size (h.alloc _ _))

theorem sN_load (h : Nx L0 I0 w0 I L w) (hg : Region.wanted o (yielded ops a.tmps) = true) (T : TypeId) (x : Operand) (ho : o.op = .load T x) (b j : Nat) (hx : a.eval x = .pointer (some ⟨b, j, none⟩))
    (i : Nat) (cs : List Value) (e : TypeId) (hi : L[i]? = some (.blk b cs e)) (v : Value) (hv : cs[j]? = some v) [hs : Scal P T]
    (k : wpListIn F n P ops Q rest (a.put o.dst v) w) : wpListIn F n P ops Q (o :: rest) a w :=
  wpN_of hg (ex_load T x ho hs.pf b j hx v (by have := h.get hi; simp [World.cell?, show w.heap[b]? = _ from this, hv])) (fun _ _ => Oper.semAt_eq _ _ _ (by simp [ho])) (fun _ => by simp [Oper.about, ho]) k

theorem sN_loadA (h : Nx L0 I0 w0 I L w) (hg : Region.wanted o (yielded ops a.tmps) = true) (T : TypeId) (x : Operand) (ho : o.op = .load T x) (b j : Nat) (hx : a.eval x = .pointer (some ⟨b, j, none⟩))
    (i : Nat) (cs : List Value) (e : TypeId) (hi : L[i]? = some (.blk b cs e)) {m : Nat} [hs : Aggr P T m] (vs : List Value) (hv : (cs.drop j).take m = vs) (hm : vs.length = m)
    (k : wpListIn F n P ops Q rest (a.put o.dst (.agg vs.toArray)) w) : wpListIn F n P ops Q (o :: rest) a w :=
  wpN_of hg (ex_loadA T x ho vs (by rw [hm]; exact hs.pf) b j hx (fun i' u hu => by
    have := h.get hi
    simp only [World.cell?, show w.heap[b]? = _ from this]
    rw [← hv, List.getElem?_take] at hu
    split at hu
    · simpa using hu
    · cases hu)) (fun _ _ => Oper.semAt_eq _ _ _ (by simp [ho])) (fun _ => by simp [Oper.about, ho]) k

theorem sN_storeA (h : Nx L0 I0 w0 I L w) (hg : Region.wanted o (yielded ops a.tmps) = true) (T : TypeId) (x y : Operand) (ho : o.op = .store T x y) (b j : Nat) (hx : a.eval x = .pointer (some ⟨b, j, none⟩))
    (i : Nat) (cs : List Value) (e : TypeId) (hi : L[i]? = some (.blk b cs e)) (v : Value) (hy : a.eval y = v) (vs : List Value) (hv : v.cells.toList = vs) (hs : (P.info? T).map (·.size) = some vs.length)
    (h1 : ∀ u ∈ vs, u.oneCell' = true) (hl : j + vs.length ≤ cs.length) (cs' : List Value) (hcs : cs.take j ++ vs ++ cs.drop (j + vs.length) = cs') 
    (k : ∀ w', Nx L0 I0 w0 I (L.set i (.blk b cs' e)) w' → wpListIn F n P ops Q rest (a.put o.dst undef) w') : wpListIn F n P ops Q (o :: rest) a w :=
  wpN_skip hg (ex_storeA T x y ho vs hs b j hx v hy hv h1 cs e (h.get hi) hl) (fun _ _ => Oper.semAt_eq _ _ _ (by simp [ho])) (fun _ => by simp [Oper.about, ho]) (by subst hcs; exact k _ (h.setRow hi _))

/-- one cell -/
theorem sN_store (h : Nx L0 I0 w0 I L w) (hg : Region.wanted o (yielded ops a.tmps) = true) (T : TypeId) (x y : Operand) (ho : o.op = .store T x y) (b j : Nat) (hx : a.eval x = .pointer (some ⟨b, j, none⟩))
    (i : Nat) (cs : List Value) (e : TypeId) (hi : L[i]? = some (.blk b cs e)) (v : Value) (hy : a.eval y = v) (h1 : v.oneCell' = true) [hs : Size P T 1]
    (hl : j < cs.length) (k : ∀ w', Nx L0 I0 w0 I (L.set i (.blk b (cs.set j v) e)) w' → wpListIn F n P ops Q rest (a.put o.dst undef) w') : wpListIn F n P ops Q (o :: rest) a w :=
  sN_storeA h hg T x y ho b j hx i cs e hi v hy [v] (cells_one h1) hs.pf (by simp [h1]) (by simp; omega) (cs.set j v) (by rw [List.set_eq_take_append_cons_drop, if_pos hl]; simp) k

/-- append onto a row of the call's own; what is appended lies where 'At' says: in a block of the call's own, or in memory that is never written again -/
theorem sN_append (h : Nx L0 I0 w0 I L w) (hg : Region.wanted o (yielded ops a.tmps) = true) (s x : Operand) (t : TypeId) (ho : o.op = .call { callee := .builtin .append, args := #[s, x], argTypes := #[t, t] })
    {e : TypeId} {sz bytes : Nat} [hT : SliceT P t e sz bytes]
    (i : Nat) (v : Value) (m : Nat) (xs : List Value) (hrow : L[i]? = some (.row sz e v m xs)) (hs : a.eval s = v)
    (ad : Option Addr) (m' c : Nat) (news : List Value) (hx : a.eval x = .slice ad m' c) (hl : news.length = m' * sz) (hsrc : Src w ad news) (h1 : ∀ u ∈ news, u.oneCell' = true)
    (hbytes : (m + m') * bytes ≤ 140737488355328)
    (k : ∀ ad' c' w', Nx L0 I0 w0 I (L.set i (.row sz e (.slice ad' (m + m') c') (m + m') (xs ++ news))) w' → (Value.slice ad' (m + m') c' = .slice none 0 0 ↔ v = .slice none 0 0 ∧ m' = 0) →
      (∀ g, (Value.slice ad' (m + m') c').ownBlock = some g → v.ownBlock = some g ∨ w0.heap.size ≤ g) → wpListIn F n P ops Q rest (a.put o.dst (.slice ad' (m + m') c')) w') : wpListIn F n P ops Q (o :: rest) a w := by
  obtain ⟨v', w', hr, ho', hg', hn, hf⟩ := run_append_src (P := P) h hT.i hT.u hrow ad m' c news hl hsrc h1 hbytes hT.pos
  have he : (execOp a.eval o).run P w = .ok (.value v') w' := by
    simp only [execOp, ho, resolve, invoke, builtin, Sem.run_bind, Sem.run_pure, Result.andThen_ok, List.map_toArray, List.map_cons, List.map_nil, hs, hx, hr]
  obtain ⟨ad', c', rfl⟩ : ∃ ad' c', v' = .slice ad' (m + m') c' := by
    rcases ho'.2 with ⟨e1, e2⟩ | ⟨g, cap, cur, e1, _⟩
    · exact ⟨none, 0, by rw [e2]; exact e1⟩
    · exact ⟨_, _, e1⟩
  refine wpN_of hg he (fun _ _ => Oper.semAt_eq _ _ _ (by simp [ho])) (fun ρ => ?_) (k ad' c' w' (h.grown hrow hg' ho' hf) hn (fun g hg2 => (hf g hg2).imp id (fun hh => Nat.le_trans h.ev.size hh)))
  simp [Oper.about, ho, resolve, Target.leads]
end

/-- a slice value whose n elements lie in the cells xs, in memory that is never written again -/
structure Rd (I : Imm) (v : Value) (n : Nat) (xs : List Value) : Prop where
  ex : ∃ ad cap, v = .slice ad n cap ∧ n ≤ cap ∧ cap ≤ maxLen ∧ ((True ∧ n = 0 ∧ cap = 0 ∧ xs = []) ∨ ∃ b j, ad = some ⟨b, j, none⟩ ∧ I.At b j xs)

theorem Rd.mono {I J : Imm} {v : Value} {n : Nat} {xs : List Value} (h : Rd I v n xs) (k : I.Le J) : Rd J v n xs := by
  obtain ⟨ad, cap, e, h1, h2, h3⟩ := h.ex
  exact ⟨ad, cap, e, h1, h2, h3.imp id fun ⟨b, j, e, h⟩ => ⟨b, j, e, h.mono k⟩⟩
theorem Rd.src {I : Imm} {ad : Option Addr} {n n' cap : Nat} {xs : List Value} (h : Rd I (.slice ad n cap) n' xs) {w : World} (hI : I.Holds w) : Src w ad xs := by
  obtain ⟨ad', cap', e, h1, h2, h3⟩ := h.ex
  simp only [Value.slice.injEq] at e
  obtain ⟨rfl, rfl, rfl⟩ := e
  rcases h3 with ⟨_, _, _, rfl⟩ | ⟨b, j, rfl, hx⟩
  · exact .inl ⟨trivial, rfl⟩
  · exact .inr ⟨b, j, rfl, fun i u hu => Imm.At.cell hx hI i hu⟩

abbrev bv (b : UInt8) : Value := .int .u8 b.toNat
abbrev bvs (l : List UInt8) : List Value := l.map bv
theorem bvs_one (l : List UInt8) : ∀ u ∈ bvs l, u.oneCell' = true := by
  intro u hu
  obtain ⟨_, _, rfl⟩ := List.mem_map.1 hu
  rfl

/-- bytes -/
abbrev RdB (I : Imm) (v : Value) (l : List UInt8) : Prop := Rd I v l.length (bvs l)

def Imm.add (I : Imm) (b : Nat) (o : Obj) : Imm := fun k => if k = b then some o else I k

theorem Nx.freeze {L0 : List Item} {I0 I : Imm} {w0 w : World} {it : Item} {L : List Item} (h : Nx L0 I0 w0 I (it :: L) w) {b : Nat} (hb : it.block = some b) (hlo : w0.heap.size ≤ b) {o : Obj} (ho : w.heap[b]? = some o) :
    Nx L0 I0 w0 (I.add b o) L w ∧ I.Le (I.add b o) := by
  have hbI : I b = none := h.imm b (mem_blocks.2 ⟨it, by simp, hb⟩)
  have hle : I.Le (I.add b o) := fun k u hk => by
    unfold Imm.add
    split
    · rename_i e; rw [e, hbI] at hk; cases hk
    · exact hk
  have hb2 : blocks (it :: L) = b :: blocks L := by simp [blocks, hb]
  have hnd := h.nodup
  rw [hb2, List.nodup_cons] at hnd
  have hH : (I.add b o).Holds w := fun k u hk => by
    unfold Imm.add at hk
    split at hk
    · rename_i e; cases hk; rw [e]; exact ho
    · exact h.hI k u hk
  refine ⟨⟨⟨hH, fun it' hm => h.holds it' (List.mem_cons_of_mem _ hm), fun k hk => ?_, hnd.2⟩,
    ⟨h.ev.os, h.ev.tape, h.ev.output, h.ev.size, h.ev.block, fun k hk => ?_, hH⟩, fun k hk => h.own k (by rw [hb2]; exact List.mem_cons_of_mem _ hk)⟩, hle⟩
  · unfold Imm.add
    rw [if_neg (fun (e : k = b) => hnd.1 (e ▸ hk))]
    exact h.imm k (by rw [hb2]; exact List.mem_cons_of_mem _ hk)
  · unfold Imm.add
    rw [if_neg (by omega)]
    exact h.ev.imm k hk

/-- a row that a call has made is laid aside -/
theorem Nx.freezeRow {L0 : List Item} {I0 I : Imm} {w0 w : World} {L : List Item} {sz m : Nat} {e : TypeId} {v : Value} {xs : List Value} (h : Nx L0 I0 w0 I (.row sz e v m xs :: L) w)
    (hlo : ∀ g, v.ownBlock = some g → w0.heap.size ≤ g) : ∃ J, Nx L0 I0 w0 J L w ∧ I.Le J ∧ Rd J v m xs := by
  have hrow : OwnsRow w e sz v m xs := h.holds (.row sz e v m xs) (by simp)
  rcases hrow.2 with ⟨rfl, rfl⟩ | ⟨g, cap, cur, rfl, hg, hnc, hcm, hcs, htake⟩
  · have hx : xs = [] := List.eq_nil_of_length_eq_zero (by simpa using hrow.1)
    subst hx
    have h2 : Nx L0 I0 w0 I L w := by
      have := h.toInit
      exact ⟨⟨h.hI, fun it hm => h.holds it (List.mem_cons_of_mem _ hm), h.imm, h.nodup⟩, h.ev, h.own⟩
    exact ⟨I, h2, Imm.Le.refl I, ⟨none, 0, rfl, Nat.le_refl _, Nat.zero_le _, .inl ⟨trivial, rfl, rfl, rfl⟩⟩⟩
  · obtain ⟨h1, h2⟩ := h.freeze (b := g) rfl (hlo g rfl) hg
    refine ⟨_, h1, h2, ⟨_, cap, rfl, hnc, hcm, .inr ⟨g, 0, rfl, cur, e, (0, 0), by simp [Imm.add], fun i u hu => ?_⟩⟩⟩
    rw [← htake, List.getElem?_take] at hu
    split at hu
    · simpa using hu
    · cases hu

theorem Nx.nilRow {L0 : List Item} {I0 I : Imm} {w0 w : World} {L : List Item} (h : Nx L0 I0 w0 I L w) (sz : Nat) (e : TypeId) : Nx L0 I0 w0 I (.row sz e (.slice none 0 0) 0 [] :: L) w :=
  ⟨⟨h.hI, fun it hm => by
      rcases List.mem_cons.1 hm with rfl | hm
      · exact OwnsRow.nil w e sz
      · exact h.holds it hm, h.imm, h.nodup⟩, h.ev, h.own⟩

/-- a slice literal may grow -/
theorem Nx.litRow {L0 : List Item} {I0 I : Imm} {w0 w : World} {L : List Item} {b : Nat} {cs : List Value} {e : TypeId} (h : Nx L0 I0 w0 I (.blk b cs e :: L) w) (sz n : Nat) (hn : cs.length = n * sz) (hm : n ≤ maxLen) :
    Nx L0 I0 w0 I (.row sz e (.slice (some ⟨b, 0, none⟩) n n) n cs :: L) w :=
  ⟨⟨h.hI, fun it hm' => by
      rcases List.mem_cons.1 hm' with rfl | hm'
      · have hb : w.heap[b]? = some (.cells cs.toArray e (0, 0)) := h.holds (.blk b cs e) (by simp)
        exact ⟨hn, .inr ⟨b, n, cs.toArray, rfl, hb, Nat.le_refl _, hm, by simp [hn], by simp [List.take_of_length_le (Nat.le_of_eq hn)]⟩⟩
      · exact h.holds it (List.mem_cons_of_mem _ hm'), h.imm, h.nodup⟩, h.ev, h.own⟩

theorem Nx.drop {L0 : List Item} {I0 I : Imm} {w0 w : World} {it : Item} {L : List Item} (h : Nx L0 I0 w0 I (it :: L) w) : Nx L0 I0 w0 I L w :=
  Nx.left (M := [it]) (h.perm (List.perm_append_comm (l₁ := [it])))
theorem Nx.nil {I : Imm} {w : World} (h : I.Holds w) : Nx [] I w I [] w := (Init.nil h).nx
theorem Nx.le {I : Imm} {w w' : World} {J : Imm} {L0 L : List Item} (h : Nx L0 I w J L w') (hI : I.Holds w) : I.Le J := h.ev.le hI

theorem Nx.swap {L0 : List Item} {I0 I : Imm} {w0 w : World} {x y : Item} {L : List Item} (h : Nx L0 I0 w0 I (x :: y :: L) w) : Nx L0 I0 w0 I (y :: x :: L) w := h.perm (List.Perm.swap _ _ _)
theorem Nx.rot {L0 : List Item} {I0 I : Imm} {w0 w : World} {x : Item} {L : List Item} (h : Nx L0 I0 w0 I (x :: L) w) : Nx L0 I0 w0 I (L ++ [x]) w := h.perm (List.perm_append_comm (l₁ := [x]))
/-- item i comes to the head -/
theorem Nx.front {L0 : List Item} {I0 I : Imm} {w0 w : World} {L : List Item} (h : Nx L0 I0 w0 I L w) (i : Nat) {it : Item} (hi : L[i]? = some it) : Nx L0 I0 w0 I (it :: L.eraseIdx i) w := by
  obtain ⟨hlt, e⟩ := List.getElem?_eq_some_iff.1 hi
  have := cons_eraseIdx_perm hlt
  rw [e] at this
  exact h.perm this.symm
theorem Nx.dropAt {L0 : List Item} {I0 I : Imm} {w0 w : World} {L : List Item} (h : Nx L0 I0 w0 I L w) (i : Nat) {it : Item} (hi : L[i]? = some it) : Nx L0 I0 w0 I (L.eraseIdx i) w := (h.front i hi).drop
theorem Nx.srcBlk {L0 : List Item} {I0 I : Imm} {w0 w : World} {L : List Item} (h : Nx L0 I0 w0 I L w) {i b : Nat} {cs : List Value} {e : TypeId} (hi : L[i]? = some (.blk b cs e)) : Src w (some ⟨b, 0, none⟩) cs := by
  have hb : w.heap[b]? = some (.cells cs.toArray e (0, 0)) := h.get hi
  exact .inr ⟨b, 0, rfl, fun j u hu => by simp [World.cell?, hb, hu]⟩
theorem Nx.srcRow {L0 : List Item} {I0 I : Imm} {w0 w : World} {L : List Item} (h : Nx L0 I0 w0 I L w) {i sz m : Nat} {e : TypeId} {ad : Option Addr} {m' c : Nat} {xs : List Value} (hi : L[i]? = some (.row sz e (.slice ad m' c) m xs)) : Src w ad xs := by
  have hr : OwnsRow w e sz (.slice ad m' c) m xs := h.get hi
  rcases hr.2 with ⟨e, rfl⟩ | ⟨g, cap, cur, e, hg, _, _, _, htake⟩
  · cases e
    exact .inl ⟨trivial, List.eq_nil_of_length_eq_zero (by simpa using hr.1)⟩
  · cases e
    refine .inr ⟨g, 0, rfl, fun j u hu => ?_⟩
    rw [← htake, List.getElem?_take] at hu
    split at hu
    · simpa [World.cell?, hg] using hu
    · cases hu
/-- an owned row's value -/
theorem Nx.rowVal {L0 : List Item} {I0 I : Imm} {w0 w : World} {L : List Item} (h : Nx L0 I0 w0 I L w) {i sz m : Nat} {e : TypeId} {v : Value} {xs : List Value} (hi : L[i]? = some (.row sz e v m xs)) :
    ∃ ad c, v = .slice ad m c ∧ m ≤ c ∧ xs.length = m * sz ∧ (ad = none → m = 0 ∧ c = 0) ∧ ∀ a, ad = some a → ∃ g, a = ⟨g, 0, none⟩ := by
  have hr : OwnsRow w e sz v m xs := h.get hi
  rcases hr.2 with ⟨e, rfl⟩ | ⟨g, cap, cur, e, hg, hc, _, _, htake⟩
  · exact ⟨none, 0, e, Nat.le_refl _, hr.1, by simp, by simp⟩
  · exact ⟨some ⟨g, 0, none⟩, cap, e, hc, hr.1, by simp, fun a ha => ⟨g, by cases ha; rfl⟩⟩
section
variable {P : Program} {ρ : Operand → Value} {o : Oper} {w : World}

theorem sliceInfo_parts {P : Program} {e sz bytes : Nat} (h : sliceInfo P e sz bytes = true) : 0 < sz ∧ ∃ i z, P.info? e = some i ∧ i.size = sz ∧ i.zero = some z ∧ z.cells.size = sz := by
  unfold sliceInfo at h
  rw [Bool.and_eq_true, decide_eq_true_eq] at h
  obtain ⟨h0, h⟩ := h
  cases hi : P.info? e with
  | none => rw [hi] at h; cases h
  | some i =>
    rw [hi] at h
    simp only [Bool.and_eq_true, beq_iff_eq] at h
    obtain ⟨⟨h1, h2⟩, h3⟩ := h
    cases hz : i.zero with
    | none => rw [hz] at h3; cases h3
    | some z => rw [hz] at h3; exact ⟨h0, i, z, rfl, h1, hz, by simpa using h3⟩

theorem ex_lit0 (T : TypeId) (ho : o.op = .buildSlice T 0 #[]) {e sz bytes : Nat} [hT : SliceT P T e sz bytes] :
    (execOp ρ o).run P w = .ok (.value (.slice (some ⟨w.heap.size, 0, none⟩) 0 0)) (w.alloc (.cells ([] : List Value).toArray e)) := by
  obtain ⟨h0, i, z, hi, rfl, hz, hzs⟩ := sliceInfo_parts hT.i
  simp [execOp, ho, Instr.buildSlice, run_underlying hT.u, sizeOf, typeInfo, hi, Instr.fill, newRow, go_sem, Result.andThen]

theorem ex_lit (T : TypeId) (n : Nat) (ps : Array (Nat × Operand)) (ho : o.op = .buildSlice T n ps) {e sz bytes : Nat} [hT : SliceT P T e sz bytes] (hn : n * sz ≤ 2 ^ 24) (hn0 : n * sz ≠ 0) (cells : Array Value)
    (hf : ∀ z : Value, z.cells.size = sz → Instr.fill (fun i => some (i * sz, sz)) ((Array.range (n * sz)).map (z.cells[· % z.cells.size]!)) (ps.map fun (i, x) => (i, ρ x)).toList = some cells) :
    (execOp ρ o).run P w = .ok (.value (.slice (some ⟨w.heap.size, 0, none⟩) n n)) (w.alloc (.cells cells.toList.toArray e)) := by
  obtain ⟨h0, i, z, hi, hs, hz, hzs⟩ := sliceInfo_parts hT.i
  have hszr : (sizeOf e).run P w = .ok sz w := by simp [sizeOf, typeInfo, hi, hs, go_sem, Result.andThen]
  have hzr : (zeroValue e).run P w = .ok z w := by simp [zeroValue, typeInfo, hi, hz, go_sem, Result.andThen]
  have hf' := hf z hzs
  have hb : (Instr.buildSlice T n (ps.map fun (i, x) => (i, ρ x))).run P w = .ok (.slice (some ⟨w.heap.size, 0, none⟩) n n) (w.alloc (.cells cells e)) := by
    unfold Instr.buildSlice
    rw [Sem.run_bind, run_underlying hT.u]
    simp only [Result.andThen]
    rw [Sem.run_bind, hszr]
    simp only [Result.andThen]
    rw [if_neg (show ¬ n * sz > 2 ^ 24 by omega), if_neg hn0]
    simp only [Sem.run_pure, Result.andThen, Sem.run_bind, hzr, hf', newRow, run_newObj_alloc]
  simp only [execOp, ho, Sem.run_bind, hb, Result.andThen, Sem.run_pure, Array.toArray_toList]

theorem cells_one' {v : Value} (h : v.oneCell' = true) : v.cells = #[v] := by have := cells_one h; rw [← Array.toArray_toList (xs := v.cells), this]

theorem ex_lit1 (T : TypeId) (x : Operand) (ho : o.op = .buildSlice T 1 #[(0, x)]) {e bytes : Nat} [hT : SliceT P T e 1 bytes] (h1 : (ρ x).oneCell' = true) :
    (execOp ρ o).run P w = .ok (.value (.slice (some ⟨w.heap.size, 0, none⟩) 1 1)) (w.alloc (.cells [ρ x].toArray e)) := by
  refine (ex_lit T 1 _ ho (by decide) (by decide) #[ρ x] fun z hz => ?_)
  obtain ⟨z0, hz0⟩ : ∃ z0, z.cells = #[z0] := Array.size_eq_one_iff.1 hz
  rw [hz0]
  have hr : Array.range (1 * 1) = #[0] := by decide
  rw [hr]
  simp [Instr.fill, cells_one' h1]

theorem ex_lit2 (T : TypeId) (x y : Operand) (ho : o.op = .buildSlice T 2 #[(0, x), (1, y)]) {e bytes : Nat} [hT : SliceT P T e 1 bytes] (h1 : (ρ x).oneCell' = true) (h2 : (ρ y).oneCell' = true) :
    (execOp ρ o).run P w = .ok (.value (.slice (some ⟨w.heap.size, 0, none⟩) 2 2)) (w.alloc (.cells [ρ x, ρ y].toArray e)) := by
  refine (ex_lit T 2 _ ho (by decide) (by decide) #[ρ x, ρ y] fun z hz => ?_)
  obtain ⟨z0, hz0⟩ : ∃ z0, z.cells = #[z0] := Array.size_eq_one_iff.1 hz
  rw [hz0]
  have hr : Array.range (2 * 1) = #[0, 1] := by decide
  rw [hr]
  simp [Instr.fill, cells_one' h1, cells_one' h2]

/-- one element of two cells -/
theorem ex_lit12 (T : TypeId) (x : Operand) (ho : o.op = .buildSlice T 1 #[(0, x)]) {e bytes : Nat} [hT : SliceT P T e 2 bytes] (a b : Value) (h1 : ρ x = .agg #[a, b]) :
    (execOp ρ o).run P w = .ok (.value (.slice (some ⟨w.heap.size, 0, none⟩) 1 1)) (w.alloc (.cells [a, b].toArray e)) := by
  refine (ex_lit T 1 _ ho (by decide) (by decide) #[a, b] fun z hz => ?_)
  obtain ⟨z0, z1, hz0⟩ : ∃ z0 z1, z.cells = #[z0, z1] := by
    have hl : z.cells.toList.length = 2 := by simpa using hz
    match hm : z.cells.toList, hl with
    | [a, b], _ => exact ⟨a, b, by rw [← Array.toArray_toList (xs := z.cells), hm]⟩
  have hcz : (Value.agg #[a, b]).cells = #[a, b] := rfl
  rw [hz0]
  have hr : Array.range (1 * 2) = #[0, 1] := by decide
  rw [hr]
  simp [Instr.fill, h1, hcz]
end

section
variable {P : Program} {ops : Array Oper} {Q : Exit → Act → World → Prop} {a : Act} {w : World} {rest : List Oper} {o : Oper} {L0 : List Item} {I0 I : Imm} {w0 : World} {L : List Item}
theorem sL_lit0 (h : Nx L0 I0 w0 I L w) (hg : Region.wanted o (yielded ops a.tmps) = true) (T : TypeId) (ho : o.op = .buildSlice T 0 #[]) {e sz bytes : Nat} [hT : SliceT P T e sz bytes]
    (k : ∀ b w', w0.heap.size ≤ b → Nx L0 I0 w0 I (.blk b [] e :: L) w' → wpList P ops Q rest (a.put o.dst (.slice (some ⟨b, 0, none⟩) 0 0)) w') : wpList P ops Q (o :: rest) a w :=
  wpL_of hg (ex_lit0 T ho) (fun _ _ => Oper.semAt_eq _ _ _ (by simp [ho])) (fun _ => by simp [Oper.about, ho]) (k _ _ h.ev.size (h.alloc _ _))
theorem sL_lit1 (h : Nx L0 I0 w0 I L w) (hg : Region.wanted o (yielded ops a.tmps) = true) (T : TypeId) (x : Operand) (ho : o.op = .buildSlice T 1 #[(0, x)]) {e bytes : Nat} [hT : SliceT P T e 1 bytes] (v : Value) (hx : a.eval x = v) (h1 : v.oneCell' = true)
    (k : ∀ b w', w0.heap.size ≤ b → Nx L0 I0 w0 I (.blk b [v] e :: L) w' → wpList P ops Q rest (a.put o.dst (.slice (some ⟨b, 0, none⟩) 1 1)) w') : wpList P ops Q (o :: rest) a w :=
  wpL_of hg (ex_lit1 T x ho (by rw [hx]; exact h1)) (fun _ _ => Oper.semAt_eq _ _ _ (by simp [ho])) (fun _ => by simp [Oper.about, ho]) (by rw [hx]; exact k _ _ h.ev.size (h.alloc _ _))
theorem sL_lit2 (h : Nx L0 I0 w0 I L w) (hg : Region.wanted o (yielded ops a.tmps) = true) (T : TypeId) (x y : Operand) (ho : o.op = .buildSlice T 2 #[(0, x), (1, y)]) {e bytes : Nat} [hT : SliceT P T e 1 bytes] (v u : Value) (hx : a.eval x = v) (hy : a.eval y = u) (h1 : v.oneCell' = true) (h2 : u.oneCell' = true)
    (k : ∀ b w', w0.heap.size ≤ b → Nx L0 I0 w0 I (.blk b [v, u] e :: L) w' → wpList P ops Q rest (a.put o.dst (.slice (some ⟨b, 0, none⟩) 2 2)) w') : wpList P ops Q (o :: rest) a w :=
  wpL_of hg (ex_lit2 T x y ho (by rw [hx]; exact h1) (by rw [hy]; exact h2)) (fun _ _ => Oper.semAt_eq _ _ _ (by simp [ho])) (fun _ => by simp [Oper.about, ho]) (by rw [hx, hy]; exact k _ _ h.ev.size (h.alloc _ _))
theorem sL_lit12 (h : Nx L0 I0 w0 I L w) (hg : Region.wanted o (yielded ops a.tmps) = true) (T : TypeId) (x : Operand) (ho : o.op = .buildSlice T 1 #[(0, x)]) {e bytes : Nat} [hT : SliceT P T e 2 bytes] (v u : Value) (hx : a.eval x = .agg #[v, u])
    (k : ∀ b w', w0.heap.size ≤ b → Nx L0 I0 w0 I (.blk b [v, u] e :: L) w' → wpList P ops Q rest (a.put o.dst (.slice (some ⟨b, 0, none⟩) 1 1)) w') : wpList P ops Q (o :: rest) a w :=
  wpL_of hg (ex_lit12 T x ho v u hx) (fun _ _ => Oper.semAt_eq _ _ _ (by simp [ho])) (fun _ => by simp [Oper.about, ho]) (k _ _ h.ev.size (h.alloc _ _))
end

section
variable {F : Fence} {n : Nat} {P : Program} {ops : Array Oper} {Q : Exit → Act → World → Prop} {a : Act} {w : World} {rest : List Oper} {o : Oper} {L0 : List Item} {I0 I : Imm} {w0 : World} {L : List Item}
theorem sN_lit0 (h : Nx L0 I0 w0 I L w) (hg : Region.wanted o (yielded ops a.tmps) = true) (T : TypeId) (ho : o.op = .buildSlice T 0 #[]) {e sz bytes : Nat} [hT : SliceT P T e sz bytes]
    (k : ∀ b w', w0.heap.size ≤ b → Nx L0 I0 w0 I (.blk b [] e :: L) w' → wpListIn F n P ops Q rest (a.put o.dst (.slice (some ⟨b, 0, none⟩) 0 0)) w') : wpListIn F n P ops Q (o :: rest) a w :=
  wpN_of hg (ex_lit0 T ho) (fun _ _ => Oper.semAt_eq _ _ _ (by simp [ho])) (fun _ => by simp [Oper.about, ho]) (k _ _ h.ev.size (h.alloc _ _))
theorem sN_lit1 (h : Nx L0 I0 w0 I L w) (hg : Region.wanted o (yielded ops a.tmps) = true) (T : TypeId) (x : Operand) (ho : o.op = .buildSlice T 1 #[(0, x)]) {e bytes : Nat} [hT : SliceT P T e 1 bytes] (v : Value) (hx : a.eval x = v) (h1 : v.oneCell' = true)
    (k : ∀ b w', w0.heap.size ≤ b → Nx L0 I0 w0 I (.blk b [v] e :: L) w' → wpListIn F n P ops Q rest (a.put o.dst (.slice (some ⟨b, 0, none⟩) 1 1)) w') : wpListIn F n P ops Q (o :: rest) a w :=
  wpN_of hg (ex_lit1 T x ho (by rw [hx]; exact h1)) (fun _ _ => Oper.semAt_eq _ _ _ (by simp [ho])) (fun _ => by simp [Oper.about, ho]) (by rw [hx]; exact k _ _ h.ev.size (h.alloc _ _))
theorem sN_lit2 (h : Nx L0 I0 w0 I L w) (hg : Region.wanted o (yielded ops a.tmps) = true) (T : TypeId) (x y : Operand) (ho : o.op = .buildSlice T 2 #[(0, x), (1, y)]) {e bytes : Nat} [hT : SliceT P T e 1 bytes] (v u : Value) (hx : a.eval x = v) (hy : a.eval y = u) (h1 : v.oneCell' = true) (h2 : u.oneCell' = true)
    (k : ∀ b w', w0.heap.size ≤ b → Nx L0 I0 w0 I (.blk b [v, u] e :: L) w' → wpListIn F n P ops Q rest (a.put o.dst (.slice (some ⟨b, 0, none⟩) 2 2)) w') : wpListIn F n P ops Q (o :: rest) a w :=
  wpN_of hg (ex_lit2 T x y ho (by rw [hx]; exact h1) (by rw [hy]; exact h2)) (fun _ _ => Oper.semAt_eq _ _ _ (by simp [ho])) (fun _ => by simp [Oper.about, ho]) (by rw [hx, hy]; exact k _ _ h.ev.size (h.alloc _ _))
theorem sN_lit12 (h : Nx L0 I0 w0 I L w) (hg : Region.wanted o (yielded ops a.tmps) = true) (T : TypeId) (x : Operand) (ho : o.op = .buildSlice T 1 #[(0, x)]) {e bytes : Nat} [hT : SliceT P T e 2 bytes] (v u : Value) (hx : a.eval x = .agg #[v, u])
    (k : ∀ b w', w0.heap.size ≤ b → Nx L0 I0 w0 I (.blk b [v, u] e :: L) w' → wpListIn F n P ops Q rest (a.put o.dst (.slice (some ⟨b, 0, none⟩) 1 1)) w') : wpListIn F n P ops Q (o :: rest) a w :=
  wpN_of hg (ex_lit12 T x ho v u hx) (fun _ _ => Oper.semAt_eq _ _ _ (by simp [ho])) (fun _ => by simp [Oper.about, ho]) (k _ _ h.ev.size (h.alloc _ _))
end
theorem ret_bool {a b : Bool} (h : a = b) : Ending.returned (.bool a) = .returned (.bool b) := by rw [h]
theorem ret_int' {k : IntKind} {a b : Int} (h : a = b) : Ending.returned (.int k a) = .returned (.int k b) := by rw [h]

section
variable {P : Program} {ops : Array Oper} {Q : Exit → Act → World → Prop} {a : Act} {w : World} {rest : List Oper} {o : Oper}
theorem sL_eqnil (hg : Region.wanted o (yielded ops a.tmps) = true) (T T' : TypeId) (x y : Operand) (ho : o.op = .binOp .eql T x y T') {e sz bytes : Nat} [hT : SliceT P T e sz bytes] (ad : Option Addr) (m c m' c' : Nat) (hx : a.eval x = .slice ad m c) (hy : a.eval y = .slice none m' c')
    (k : wpList P ops Q rest (a.put o.dst (.bool ad.isNone)) w) : wpList P ops Q (o :: rest) a w :=
  wpL_of hg (v := .bool ad.isNone) (by
      have he : eqGuard .eql T x y (.slice ad m c) (.slice none m' c') = pure () := rfl
      simp only [execOp, ho, hx, hy, he, Sem.run_bind, Sem.run_pure, Result.andThen_ok, Lib.run_eql_slice_nil w T e ad m c m' c' hT.u]) (fun _ _ => Oper.semAt_eq _ _ _ (by simp [ho])) (fun _ => by simp [Oper.about, ho]) k
theorem sL_neqnil (hg : Region.wanted o (yielded ops a.tmps) = true) (T T' : TypeId) (x y : Operand) (ho : o.op = .binOp .neq T x y T') {e sz bytes : Nat} [hT : SliceT P T e sz bytes] (ad : Option Addr) (m c m' c' : Nat) (hx : a.eval x = .slice ad m c) (hy : a.eval y = .slice none m' c')
    (k : wpList P ops Q rest (a.put o.dst (.bool !ad.isNone)) w) : wpList P ops Q (o :: rest) a w :=
  wpL_of hg (v := .bool !ad.isNone) (by
      have he : eqGuard .neq T x y (.slice ad m c) (.slice none m' c') = pure () := rfl
      simp only [execOp, ho, hx, hy, he, Sem.run_bind, Sem.run_pure, Result.andThen_ok, run_neq_slice_nil_any w T e ad m c m' c' hT.u]) (fun _ _ => Oper.semAt_eq _ _ _ (by simp [ho])) (fun _ => by simp [Oper.about, ho]) k
end

theorem run_loadA {P : Program} {w : World} {T b j : Nat} {vs : List Value} (hs : aggr P T vs.length = true) (hc : ∀ i u, vs[i]? = some u → w.cell? ⟨b, j + i, none⟩ = some u) :
    (loadVar T ⟨b, j, none⟩).run P w = .ok (.agg vs.toArray) w := by
  unfold aggr at hs
  rw [Bool.and_eq_true, beq_iff_eq] at hs
  obtain ⟨h1, h2⟩ := hs
  obtain ⟨i, hi, hz'⟩ := Option.map_eq_some_iff.1 h2
  have hagg : (isAgg T).run P w = .ok true w := by
    unfold isAgg
    cases hu : P.underlying T with
    | none => rw [hu] at h1; cases h1
    | some d =>
      rw [Sem.run_bind, run_underlying hu w]
      cases d <;> simp_all
  have hl := run_loadCells_list (P := P) (w := w) ⟨b, j, none⟩ vs (fun i u hu => by rw [Addr.add_lit]; exact hc i u hu)
  unfold loadCells at hl
  simp [loadVar, hagg, sizeOf, typeInfo, hi, hz', hl, go_sem, Result.andThen]
theorem Nx.cells0 {L0 : List Item} {I0 I : Imm} {w0 w : World} {L : List Item} (h : Nx L0 I0 w0 I L w) {i b : Nat} {cs : List Value} {e : TypeId} (hi : L[i]? = some (.blk b cs e)) : ∀ i u, cs[i]? = some u → w.cell? ⟨b, 0 + i, none⟩ = some u := by
  intro j u hu
  have hb : w.heap[b]? = some (.cells cs.toArray e (0, 0)) := h.get hi
  simp [World.cell?, hb, hu]
/-- results in a cell, and a plain one: (struct, int) -/
theorem res_ct {P : Program} {fn : Func} {p u : Tmp} {T : TypeId} (h : fn.results = #[.cell p T, .tmp u]) {tmps : Array Value} {w : World} {L0 : List Item} {I0 I : Imm} {w0 : World} {L : List Item} (hS : Nx L0 I0 w0 I L w)
    {b : Nat} (hp : tmps.getD p undef = .pointer (some ⟨b, 0, none⟩)) (i : Nat) {cs : List Value} {e : TypeId} (hi : L[i]? = some (.blk b cs e)) {m : Nat} [hT : Aggr P T m] (hm : cs.length = m) {v : Value} (hv : tmps.getD u undef = v) :
    (results fn tmps).run P w = .ok (.tuple #[.agg cs.toArray, v]) w := by
  have hl := run_loadA (P := P) (T := T) (by rw [hm]; exact hT.pf) (hS.cells0 hi)
  rw [results_cell_tmp h, hp, hv]
  simp [asAddr, Result.andThen, hl]
/-- one result, in a cell -/
theorem res_c {P : Program} {fn : Func} {p : Tmp} {T : TypeId} (h : fn.results = #[.cell p T]) {tmps : Array Value} {w : World} {L0 : List Item} {I0 I : Imm} {w0 : World} {L : List Item} (hS : Nx L0 I0 w0 I L w)
    {b : Nat} (hp : tmps.getD p undef = .pointer (some ⟨b, 0, none⟩)) (i : Nat) {cs : List Value} {e : TypeId} (hi : L[i]? = some (.blk b cs e)) {m : Nat} [hT : Aggr P T m] (hm : cs.length = m) :
    (results fn tmps).run P w = .ok (.agg cs.toArray) w := by
  have hl := run_loadA (P := P) (T := T) (by rw [hm]; exact hT.pf) (hS.cells0 hi)
  have hp' : tmps[p]?.getD undef = .pointer (some ⟨b, 0, none⟩) := by simpa using hp
  simp [results, h, hp', asAddr, hl]

section
variable {P : Program} {ops : Array Oper} {Q : Exit → Act → World → Prop} {a : Act} {w : World} {rest : List Oper} {o : Oper} {L0 : List Item} {I0 I : Imm} {w0 : World} {L : List Item}
/-- a struct into a whole block -/
theorem sL_storeB (h : Nx L0 I0 w0 I L w) (hg : Region.wanted o (yielded ops a.tmps) = true) (T : TypeId) (x y : Operand) (ho : o.op = .store T x y) (b : Nat) (hx : a.eval x = .pointer (some ⟨b, 0, none⟩))
    (i : Nat) (cs : List Value) (e : TypeId) (hi : L[i]? = some (.blk b cs e)) (vs : List Value) (hy : a.eval y = .agg vs.toArray) {m : Nat} [hT : Aggr P T m] (hm : vs.length = m) (hl : cs.length = m)
    (h1 : ∀ u ∈ vs, u.oneCell' = true) (k : ∀ w', Nx L0 I0 w0 I (L.set i (.blk b vs e)) w' → wpList P ops Q rest (a.put o.dst undef) w') : wpList P ops Q (o :: rest) a w := by
  have hs : (P.info? T).map (·.size) = some vs.length := by
    have := hT.pf
    unfold aggr at this
    rw [Bool.and_eq_true, beq_iff_eq] at this
    rw [hm]; exact this.2
  refine sL_storeA h hg T x y ho b 0 hx i cs e hi _ hy vs rfl hs h1 (by omega) vs ?_ k
  rw [List.take_zero, List.nil_append, List.drop_of_length_le (by omega), List.append_nil]
theorem gL_load {d : Option Tmp} {T t : TypeId} {x : Operand} {p : String} {af : Array Edge} {g : Option (Nat × Bool)} (h : wpList P ops Q (⟨d, .load T x, t, p, af, g⟩ :: rest) a w) : wpList P ops Q (⟨d, .load T x, t, p, af, g⟩ :: rest) a w := h
theorem gL_store {d : Option Tmp} {T t : TypeId} {x y : Operand} {p : String} {af : Array Edge} {g : Option (Nat × Bool)} (h : wpList P ops Q (⟨d, .store T x y, t, p, af, g⟩ :: rest) a w) : wpList P ops Q (⟨d, .store T x y, t, p, af, g⟩ :: rest) a w := h
theorem gL_alloc {d : Option Tmp} {T t : TypeId} {p : String} {af : Array Edge} {g : Option (Nat × Bool)} (h : wpList P ops Q (⟨d, .alloc T, t, p, af, g⟩ :: rest) a w) : wpList P ops Q (⟨d, .alloc T, t, p, af, g⟩ :: rest) a w := h
theorem gL_box {d : Option Tmp} {T t : TypeId} {x : Operand} {p : String} {af : Array Edge} {g : Option (Nat × Bool)} (h : wpList P ops Q (⟨d, .box T x, t, p, af, g⟩ :: rest) a w) : wpList P ops Q (⟨d, .box T x, t, p, af, g⟩ :: rest) a w := h
theorem gL_lit {d : Option Tmp} {T t : TypeId} {m : Nat} {ps : Array (Nat × Operand)} {p : String} {af : Array Edge} {g : Option (Nat × Bool)} (h : wpList P ops Q (⟨d, .buildSlice T m ps, t, p, af, g⟩ :: rest) a w) : wpList P ops Q (⟨d, .buildSlice T m ps, t, p, af, g⟩ :: rest) a w := h
theorem gL_bin {d : Option Tmp} {op : BinOp} {T T' t : TypeId} {x y : Operand} {p : String} {af : Array Edge} {g : Option (Nat × Bool)} (h : wpList P ops Q (⟨d, .binOp op T x y T', t, p, af, g⟩ :: rest) a w) : wpList P ops Q (⟨d, .binOp op T x y T', t, p, af, g⟩ :: rest) a w := h
theorem gL_app {d : Option Tmp} {t : TypeId} {opds : Array Operand} {ts : Array TypeId} {p : String} {af : Array Edge} {g : Option (Nat × Bool)} (h : wpList P ops Q (⟨d, .call ⟨.builtin .append, opds, ts⟩, t, p, af, g⟩ :: rest) a w) : wpList P ops Q (⟨d, .call ⟨.builtin .append, opds, ts⟩, t, p, af, g⟩ :: rest) a w := h
theorem gL_slice {d : Option Tmp} {T t : TypeId} {x : Operand} {lo hi mx : Option Operand} {p : String} {af : Array Edge} {g : Option (Nat × Bool)} (h : wpList P ops Q (⟨d, .slice T x lo hi mx, t, p, af, g⟩ :: rest) a w) : wpList P ops Q (⟨d, .slice T x lo hi mx, t, p, af, g⟩ :: rest) a w := h
theorem gL_conv {d : Option Tmp} {T U t : TypeId} {x : Operand} {p : String} {af : Array Edge} {g : Option (Nat × Bool)} (h : wpList P ops Q (⟨d, .convert T U x, t, p, af, g⟩ :: rest) a w) : wpList P ops Q (⟨d, .convert T U x, t, p, af, g⟩ :: rest) a w := h
end

section
variable {F : Fence} {n : Nat} {P : Program} {ops : Array Oper} {Q : Exit → Act → World → Prop} {a : Act} {w : World} {rest : List Oper} {o : Oper} {L0 : List Item} {I0 I : Imm} {w0 : World} {L : List Item}
/-- a struct into a whole block -/
theorem sN_storeB (h : Nx L0 I0 w0 I L w) (hg : Region.wanted o (yielded ops a.tmps) = true) (T : TypeId) (x y : Operand) (ho : o.op = .store T x y) (b : Nat) (hx : a.eval x = .pointer (some ⟨b, 0, none⟩))
    (i : Nat) (cs : List Value) (e : TypeId) (hi : L[i]? = some (.blk b cs e)) (vs : List Value) (hy : a.eval y = .agg vs.toArray) {m : Nat} [hT : Aggr P T m] (hm : vs.length = m) (hl : cs.length = m)
    (h1 : ∀ u ∈ vs, u.oneCell' = true) (k : ∀ w', Nx L0 I0 w0 I (L.set i (.blk b vs e)) w' → wpListIn F n P ops Q rest (a.put o.dst undef) w') : wpListIn F n P ops Q (o :: rest) a w := by
  have hs : (P.info? T).map (·.size) = some vs.length := by
    have := hT.pf
    unfold aggr at this
    rw [Bool.and_eq_true, beq_iff_eq] at this
    rw [hm]; exact this.2
  refine sN_storeA h hg T x y ho b 0 hx i cs e hi _ hy vs rfl hs h1 (by omega) vs ?_ k
  rw [List.take_zero, List.nil_append, List.drop_of_length_le (by omega), List.append_nil]
theorem gN_load {d : Option Tmp} {T t : TypeId} {x : Operand} {p : String} {af : Array Edge} {g : Option (Nat × Bool)} (h : wpListIn F n P ops Q (⟨d, .load T x, t, p, af, g⟩ :: rest) a w) : wpListIn F n P ops Q (⟨d, .load T x, t, p, af, g⟩ :: rest) a w := h
theorem gN_store {d : Option Tmp} {T t : TypeId} {x y : Operand} {p : String} {af : Array Edge} {g : Option (Nat × Bool)} (h : wpListIn F n P ops Q (⟨d, .store T x y, t, p, af, g⟩ :: rest) a w) : wpListIn F n P ops Q (⟨d, .store T x y, t, p, af, g⟩ :: rest) a w := h
theorem gN_alloc {d : Option Tmp} {T t : TypeId} {p : String} {af : Array Edge} {g : Option (Nat × Bool)} (h : wpListIn F n P ops Q (⟨d, .alloc T, t, p, af, g⟩ :: rest) a w) : wpListIn F n P ops Q (⟨d, .alloc T, t, p, af, g⟩ :: rest) a w := h
theorem gN_box {d : Option Tmp} {T t : TypeId} {x : Operand} {p : String} {af : Array Edge} {g : Option (Nat × Bool)} (h : wpListIn F n P ops Q (⟨d, .box T x, t, p, af, g⟩ :: rest) a w) : wpListIn F n P ops Q (⟨d, .box T x, t, p, af, g⟩ :: rest) a w := h
theorem gN_lit {d : Option Tmp} {T t : TypeId} {m : Nat} {ps : Array (Nat × Operand)} {p : String} {af : Array Edge} {g : Option (Nat × Bool)} (h : wpListIn F n P ops Q (⟨d, .buildSlice T m ps, t, p, af, g⟩ :: rest) a w) : wpListIn F n P ops Q (⟨d, .buildSlice T m ps, t, p, af, g⟩ :: rest) a w := h
theorem gN_app {d : Option Tmp} {t : TypeId} {opds : Array Operand} {ts : Array TypeId} {p : String} {af : Array Edge} {g : Option (Nat × Bool)} (h : wpListIn F n P ops Q (⟨d, .call ⟨.builtin .append, opds, ts⟩, t, p, af, g⟩ :: rest) a w) : wpListIn F n P ops Q (⟨d, .call ⟨.builtin .append, opds, ts⟩, t, p, af, g⟩ :: rest) a w := h
theorem gN_slice {d : Option Tmp} {T t : TypeId} {x : Operand} {lo hi mx : Option Operand} {p : String} {af : Array Edge} {g : Option (Nat × Bool)} (h : wpListIn F n P ops Q (⟨d, .slice T x lo hi mx, t, p, af, g⟩ :: rest) a w) : wpListIn F n P ops Q (⟨d, .slice T x lo hi mx, t, p, af, g⟩ :: rest) a w := h
end

theorem Nx.pure0 {L0 : List Item} {I0 I J : Imm} {w0 w w' : World} {L : List Item} (h : Nx L0 I0 w0 I L w) (k : Nx [] I w J [] w') : Nx L0 I0 w0 J L w' := h.pure k
theorem Nx.pure1 {L0 : List Item} {I0 I J : Imm} {w0 w w' : World} {L : List Item} {it : Item} (h : Nx L0 I0 w0 I L w) (k : Nx [] I w J [it] w') : Nx L0 I0 w0 J (it :: L) w' := h.pure k
theorem Nx.fresh {I J : Imm} {w w' : World} {M : List Item} (k : Nx [] I w J M w') : ∀ b ∈ blocks M, w.heap.size ≤ b := fun b hb => (k.own b hb).resolve_left (by simp [blocks])
/-- what a call has made is laid aside at once -/
theorem Nx.pureFreeze {L0 : List Item} {I0 I J : Imm} {w0 w w' : World} {L : List Item} {sz m : Nat} {e : TypeId} {v : Value} {xs : List Value} (h : Nx L0 I0 w0 I L w) (k : Nx [] I w J [.row sz e v m xs] w') :
    ∃ K, Nx L0 I0 w0 K L w' ∧ I.Le K ∧ Rd K v m xs := by
  obtain ⟨K, h1, h2, h3⟩ := (h.pure1 k).freezeRow (fun g hg => Nat.le_trans h.ev.size (k.fresh g (mem_blocks.2 ⟨_, List.mem_singleton.2 rfl, hg⟩)))
  exact ⟨K, h1, (k.le h.hI).trans h2, h3⟩
end Go.Proofs.YtmlgieclkedomaaGreat

namespace Go.Proofs.YtmlgieclkedomaaGreat
open Go
instance : Size Tryz.prog 2 1 := ⟨by kernel_rfl⟩
instance : Scal Tryz.prog 2 := ⟨by kernel_rfl⟩
instance : Size Tryz.prog 3 1 := ⟨by kernel_rfl⟩
instance : Scal Tryz.prog 3 := ⟨by kernel_rfl⟩
instance : ZeroC Tryz.prog 4 ([(.bool false)]) := ⟨by kernel_rfl⟩
instance : Size Tryz.prog 4 1 := ⟨by kernel_rfl⟩
instance : Scal Tryz.prog 4 := ⟨by kernel_rfl⟩
instance : ZeroC Tryz.prog 5 ([(.int .u8 0)]) := ⟨by kernel_rfl⟩
instance : Size Tryz.prog 5 1 := ⟨by kernel_rfl⟩
instance : Scal Tryz.prog 5 := ⟨by kernel_rfl⟩
instance : ZeroC Tryz.prog 22 ([(.slice none 0 0)]) := ⟨by kernel_rfl⟩
instance : Size Tryz.prog 22 1 := ⟨by kernel_rfl⟩
instance : Scal Tryz.prog 22 := ⟨by kernel_rfl⟩
instance : SliceT Tryz.prog 22 5 1 1 := ⟨by kernel_rfl, by kernel_rfl, by decide⟩
instance : Size Tryz.prog 24 1 := ⟨by kernel_rfl⟩
instance : Scal Tryz.prog 24 := ⟨by kernel_rfl⟩
instance : SliceT Tryz.prog 24 22 1 24 := ⟨by kernel_rfl, by kernel_rfl, by decide⟩
instance : ZeroC Tryz.prog 25 ([(.slice none 0 0)]) := ⟨by kernel_rfl⟩
instance : Size Tryz.prog 25 1 := ⟨by kernel_rfl⟩
instance : Scal Tryz.prog 25 := ⟨by kernel_rfl⟩
instance : SliceT Tryz.prog 25 30 2 32 := ⟨by kernel_rfl, by kernel_rfl, by decide⟩
instance : ZeroC Tryz.prog 26 ([(.int .i64 0)]) := ⟨by kernel_rfl⟩
instance : Size Tryz.prog 26 1 := ⟨by kernel_rfl⟩
instance : Scal Tryz.prog 26 := ⟨by kernel_rfl⟩
instance : ZeroC Tryz.prog 30 ([(.int .u8 0), (.slice none 0 0)]) := ⟨by kernel_rfl⟩
instance : Aggr Tryz.prog 30 2 := ⟨by kernel_rfl⟩
instance : Scal Tryz.prog 31 := ⟨by kernel_rfl⟩
instance : ZeroC Tryz.prog 37 (List.replicate 32 (.int .u8 0)) := ⟨by kernel_rfl⟩
instance : Aggr Tryz.prog 37 32 := ⟨by kernel_rfl⟩
instance : Size Tryz.prog 58 1 := ⟨by kernel_rfl⟩
instance : Scal Tryz.prog 58 := ⟨by kernel_rfl⟩
instance : Aggr Tryz.prog 96 2 := ⟨by kernel_rfl⟩
instance : Size Tryz.prog 100 1 := ⟨by kernel_rfl⟩
instance : Scal Tryz.prog 100 := ⟨by kernel_rfl⟩
instance : SliceT Tryz.prog 100 174 1 8 := ⟨by kernel_rfl, by kernel_rfl, by decide⟩
instance : Size Tryz.prog 117 1 := ⟨by kernel_rfl⟩
instance : Scal Tryz.prog 117 := ⟨by kernel_rfl⟩
instance : Scal Tryz.prog 127 := ⟨by kernel_rfl⟩
instance : Scal Tryz.prog 134 := ⟨by kernel_rfl⟩
instance : ZeroC Tryz.prog 152 ([(.int .i64 0)]) := ⟨by kernel_rfl⟩
instance : Aggr Tryz.prog 152 1 := ⟨by kernel_rfl⟩
instance : ZeroC Tryz.prog 160 (List.replicate 8 (.int .u32 0)) := ⟨by kernel_rfl⟩
instance : Aggr Tryz.prog 160 8 := ⟨by kernel_rfl⟩
instance : ZeroC Tryz.prog 163 (List.replicate 8 (.int .u32 0) ++ [(.slice none 0 0), (.int .u64 0)]) := ⟨by kernel_rfl⟩
instance : Aggr Tryz.prog 163 10 := ⟨by kernel_rfl⟩
instance : Size Tryz.prog 174 1 := ⟨by kernel_rfl⟩
instance : Scal Tryz.prog 174 := ⟨by kernel_rfl⟩
instance : Scal Tryz.prog 179 := ⟨by kernel_rfl⟩
instance : ZeroC Tryz.prog 182 (List.replicate 64 (.int .u32 0)) := ⟨by kernel_rfl⟩
instance : Aggr Tryz.prog 182 64 := ⟨by kernel_rfl⟩
instance : SliceT Tryz.prog 186 58 1 4 := ⟨by kernel_rfl, by kernel_rfl, by decide⟩
instance : ZeroC Tryz.prog 193 ([(.int .i64 0), (.int .i64 0), (.int .i64 0)]) := ⟨by kernel_rfl⟩
instance : SliceT Tryz.prog 202 3 1 8 := ⟨by kernel_rfl, by kernel_rfl, by decide⟩
end Go.Proofs.YtmlgieclkedomaaGreat

namespace Go.Proofs.YtmlgieclkedomaaGreat
open Go Go.RowKit

section
variable {F : Fence} {n : Nat} {P : Program} {b : Frame} {a : Act} {k : List Item} {cs : List Frame} {w : World} {Q : Exit → Act → World → Prop}
theorem stepR_scope {k : List Go.Item} {c : Code} : step P (lone (b.atR a (.code (.scope c) :: k)) cs w) = .next (lone (b.atR a (.code c :: .inScope c :: k)) cs w) :=
  step_lone_go (by simp [stepG, stepG.exec, Frame.atR])
theorem stepR_inScope {k : List Go.Item} {c : Code} : step P (lone (b.atR a (.inScope c :: k)) cs w) = .next (lone (b.atR a k) cs w) :=
  step_lone_go (by simp [stepG, stepG.exec, Frame.atR])

/-- a scope through which the run goes without a goto, in a fence -/
theorem wpIn_scope_straight {c : Code} (h : c.wpIn F n P (Exit.noGoto Q) a w) : (Code.scope c).wpIn F n P Q a w := by
  intro b k cs hro hb hr
  have h0 : (lone (b.atR a (.code (.scope c) :: k)) cs w).fenced P F := fenced_calm hb hr rfl
  obtain ⟨e, a₁, w₁, hq, harr⟩ := h b (.inScope c :: k) cs hro hb hr
  cases e with
  | normal => exact ⟨.normal, a₁, w₁, hq, .head h0 stepR_scope (StepsIn.trans harr (.one (fenced_calm hb hr rfl) stepR_inScope))⟩
  | exit id =>
    have hx : ∀ k' : List Go.Item, exitTo id (.inScope c :: k) = exitTo id k := fun _ => by simp [exitTo]
    exact ⟨.exit id, a₁, w₁, hq, fun k' hk => .head h0 stepR_scope (harr.1 k' (by rw [hx k]; exact hk)),
      fun hr' hk => let ⟨k₁, h1, h2⟩ := harr.2 hr' (by rw [hx k]; exact hk); ⟨k₁, h1, .head h0 stepR_scope h2⟩⟩
  | goto l => exact hq.elim
  | ret => exact ⟨_, a₁, w₁, hq, .of_steps (.one h0 stepR_scope) harr⟩
  | panic ch => exact ⟨_, a₁, w₁, hq, .of_steps (.one h0 stepR_scope) harr⟩
  | outgrown => exact ⟨_, a₁, w₁, hq, .of_steps (.one h0 stepR_scope) harr⟩
end

/-- a round, as the iterator sees it: it goes on, or it says 'no more' -/
def Yields {α : Type} (P : Program) (l : Nat) (encs : α → Array Value) (xs : List α) (Inv Bad : List α → Imm → List Item → Prop) : Prop :=
  ∀ pre x I B w, (pre ++ [x]) <+: xs → Init I B w → Inv pre I B → YieldAt Fence.wide 0 P l (encs x) w fun e w' =>
    (e = .returned (.bool true) ∧ ∃ J B', Nx B I w J B' w' ∧ Inv (pre ++ [x]) J B') ∨ (e = .returned (.bool false) ∧ ∃ J B', Nx B I w J B' w' ∧ Bad (pre ++ [x]) J B')

/-- the iterator's word: it hands on the elements of xs, in their order, till a round says 'no more' -/
def Emits {α : Type} (P : Program) (f : Nat) (lb : Array Value) (encs : α → Array Value) (I : Imm) (w : World) (Lit : List Item) (xs : List α) : Prop :=
  ∀ (l : Nat) (Inv Bad : List α → Imm → List Item → Prop) (B : List Item), Yields P l encs xs Inv Bad → Init I (Lit ++ B) w → Inv [] I B →
    CallsIn Fence.wide 0 P f (#[.func (.yield l) #[] #[]] ++ lb) w fun e w' => (∃ v, e = .returned v) ∧
      ∃ J B', Nx (Lit ++ B) I w J B' w' ∧ (Inv xs J B' ∨ ∃ pre, pre <+: xs ∧ Bad pre J B')

/-- what is asked at a round's end -/
def roundPostN {α : Type} (Inv : List α → Imm → List Item → Prop) (Bad : Code → List α → Imm → List Item → Prop) (pre : List α) (I : Imm) (B : List Item) (w : World) : Exit → Act → World → Prop
  | .normal, _, w' => ∃ J B', Nx B I w J B' w' ∧ Inv pre J B'
  | .ret, _, w' => ∃ J B', Nx B I w J B' w' ∧ Bad .ret pre J B'
  | .exit id, _, w' => ∃ J B', Nx B I w J B' w' ∧ Bad (.exit id) pre J B'
  | _, _, _ => False

theorem Init.right {I : Imm} {L M : List Item} {w : World} (h : Init I (L ++ M) w) : Init I M w := (h.perm List.perm_append_comm).left

/-- a call framed by what stands ahead -/
theorem Nx.callTail {L0 I0 w0 I L1 L2 w J L1' w'} (h : Nx L0 I0 w0 I (L2 ++ L1) w) (k : Nx L1 I w J L1' w') : Nx L0 I0 w0 J (L2 ++ L1') w' :=
  (Nx.call (h.perm List.perm_append_comm) k).perm List.perm_append_comm

/-- a round of the body's, where the iterator calls for one -/
theorem Yields.at {α : Type} {P : Program} {l : Nat} {encs : α → Array Value} {xs : List α} {Inv Bad : List α → Imm → List Item → Prop} (h : Yields P l encs xs Inv Bad) {L0 I0 w0 I Lit B w} (hS : Nx L0 I0 w0 I (Lit ++ B) w)
    {pre : List α} (x : α) (hx : (pre ++ [x]) <+: xs) (hI : Inv pre I B) {args : Array Value} (ha : encs x = args) {o : Oper} {a : Act} {next : Act → World → Prop} {Q : Exit → Act → World → Prop}
    (hgo : ∀ J B' w', Nx L0 I0 w0 J (Lit ++ B') w' → Inv (pre ++ [x]) J B' → next (a.put o.dst (.bool true)) w')
    (hno : ∀ J B' w', Nx L0 I0 w0 J (Lit ++ B') w' → Bad (pre ++ [x]) J B' → next (a.put o.dst (.bool false)) w') :
    o.uponIn Fence.wide 0 P a next Q ((Instr.yield l args).run P w) := by
  obtain ⟨fn, tmps, assign, body, hy, hR⟩ := h pre x I B w hx (Init.right hS.toInit) hI
  rw [← ha, hy]
  refine ⟨fun h => by simp [Fence.wide] at h, hR.mono ?_⟩
  rintro e w' (⟨rfl, J, B', hn, hi⟩ | ⟨rfl, J, B', hn, hb⟩)
  · exact hgo J B' w' (hS.callTail hn) hi
  · exact hno J B' w' (hS.callTail hn) hb

/-- after a change of one item, from a new base -/
theorem Nx.trans {L0 I0 w0 I L w J M w'} (h : Nx L0 I0 w0 I L w) (k : Nx L I w J M w') : Nx L0 I0 w0 J M w' := by
  have := Nx.call (L2 := []) (by simpa using h) k
  simpa using this

theorem wpIn_rangeN {α : Type} {P : Program} {g : Operand} {ps : Array Tmp} {assign body : Code} {Q : Exit → Act → World → Prop} {a : Act} {w w0 : World} {L0 : List Item} {I0 I : Imm}
    {gf : Nat} {lb : Array Value} (hg : a.eval g = .func (.func gf) #[] lb) (eg : ∀ args w, (callFunc gf args).run P w = .ok (.enter gf args) w)
    {encs : α → Array Value} {Lit L : List Item} {xs : List α} (hS : Nx L0 I0 w0 I (Lit ++ L) w) (hseq : ∀ w', Nx L0 I0 w0 I (Lit ++ L) w' → Emits P gf lb encs I w' Lit xs) (hps : ∀ x, (encs x).size = ps.size)
    (Inv : List α → Imm → List Item → Prop) (Bad : Code → List α → Imm → List Item → Prop) (h0 : Inv [] I L)
    (hround : ∀ (l : Nat) (pre : List α) (x : α) (I : Imm) (B : List Item) (w : World), (pre ++ [x]) <+: xs → Init I B w → Inv pre I B →
      assign.wpIn (Fence.wide.inRound l) 0 P (Exit.then (fun a1 w1 => ∃ J B', Nx B I w J B' w1 ∧ ∀ w2, Init J B' w2 → body.wpIn (Fence.wide.inRound l) 0 P (roundPostN Inv Bad (pre ++ [x]) J B' w2) a1 w2) (fun _ _ _ => False))
        { tmps := (ps.zip (encs x)).foldl (fun t (p, v) => t.setIfInBounds p v) a.tmps, defers := [] } w)
    (hdone : ∀ (D : Nat) (J : Imm) (B' : List Item) (w' : World), Nx L0 I0 w0 J (.obj D (.deferred (some [])) :: B') w' → Inv xs J B' →
      Q .normal { a with defers := { target := .collected D, args := #[] } :: a.defers } w')
    (hstop : ∀ (D : Nat) (c : Code) (pre : List α) (J : Imm) (B' : List Item) (w' : World), Nx L0 I0 w0 J (.obj D (.deferred (some [])) :: B') w' → pre <+: xs → Bad c pre J B' →
      c.wpIn Fence.wide 0 P Q { a with defers := { target := .collected D, args := #[] } :: a.defers } w') :
    (Code.rangeFunc g ps assign body).wpIn Fence.wide 0 P Q a w := by
  refine wpIn_rangeFunc ?_
  intro fn hfn
  obtain ⟨rec, hrec⟩ : ∃ rec : LoopState → Option Code → Loop, rec = fun st pe => { state := st, pending := pe, fn, tmps := a.tmps, params := ps, assign, body, defers := w.heap.size } := ⟨_, rfl⟩
  obtain ⟨W1, hW1⟩ : ∃ W1, (w.alloc (.deferred (some []))).alloc (.loop (rec .ready none)) = W1 := ⟨_, rfl⟩
  have hS1 := (hS.allocObj (.deferred (some []))).allocObj (.loop (rec .ready none))
  rw [hW1, World.size_alloc] at hS1
  obtain ⟨D, hD⟩ : ∃ D, D = w.heap.size := ⟨_, rfl⟩
  obtain ⟨l, hl⟩ : ∃ l, l = w.heap.size + 1 := ⟨_, rfl⟩
  rw [← hl, ← hD] at hS1
  have hpL : ∀ (Lx Lb : List Item) (x y : Item), (x :: y :: (Lx ++ Lb)).Perm (Lx ++ (x :: y :: Lb)) := fun Lx Lb x y =>
    (List.perm_append_comm (l₁ := [x, y]) (l₂ := Lx ++ Lb)).trans (by rw [List.append_assoc]; exact List.Perm.append_left Lx (List.perm_append_comm (l₁ := Lb) (l₂ := [x, y])))
  have hS2 := hS1.perm (hpL Lit L _ _)
  refine ⟨l, [{ target := .collected D, args := #[] }], W1, { target := .fn (.func gf) lb, args := #[.func (.yield l) #[] #[]] }, W1, gf,
    #[.func (.yield l) #[] #[]] ++ lb, W1, ?_, ?_, ?_, ?_, fun h => by simp [Fence.wide] at h, ?_⟩
  · rw [hl, hD, ← hW1, hrec]; exact run_enterLoop_outer _ _ _ _ _
  · simp only [resolve, hg]
    simp [go_sem]
  · intro f' hf'; trivial
  · simp [invoke, go_sem, eg]
  · have hnx1 : Nx L0 I0 w0 I (Lit ++ L) W1 := hS1.drop.drop
    refine (hseq W1 hnx1 l
      (fun pre I B => ∃ B1, B = .obj l (.loop (rec .ready none)) :: .obj D (.deferred (some [])) :: B1 ∧ Inv pre I B1)
      (fun pre I B => ∃ c B1, B = .obj l (.loop (rec .done (some c))) :: .obj D (.deferred (some [])) :: B1 ∧ Bad c pre I B1)
      (.obj l (.loop (rec .ready none)) :: .obj D (.deferred (some [])) :: L) ?_ hS2.toInit ⟨L, rfl, h0⟩).mono ?_
    · -- one round
      rintro pre x I B w hpre hin ⟨B1, rfl, hInv⟩
      have hl0 : w.heap[l]? = some (.loop (rec .ready none)) := hin.holds (.obj l _) (by simp)
      have hy := run_yield (P := P) (args := encs x) hl0 (by rw [hrec]; exact hps x)
      rw [hrec] at hy
      have hinB : Init I B1 w := Init.right (L := [_, _]) hin
      refine ⟨fn, _, assign, body, hy, roundIn_of_wpIn hfn (wpIn_mono (hround l pre x I B1 w hpre hinB hInv) ?_)⟩
      clear hy
      rintro e a1 w1 he
      cases e with
      | normal =>
        obtain ⟨J, B', hnx, hbody⟩ := he
        have hf1 := Nx.call (L1 := B1) (L2 := [.obj l (.loop (rec .ready none)), .obj D (.deferred (some []))])
          (hin.nx.perm (List.perm_append_comm (l₁ := [_, _]) (l₂ := B1))) hnx
        have hf2 := hf1.perm (List.perm_append_comm (l₁ := B') (l₂ := [.obj l (.loop (rec .ready none)), .obj D (.deferred (some []))]))
        have hl1 : w1.heap[l]? = some (.loop (rec .ready none)) := hf2.get (i := 0) rfl
        refine ⟨_, run_beginRound hl1 (by rw [hrec]), ?_⟩
        have hf3 := hf2.putObj (i := 0) rfl (.loop { rec .ready none with state := .busy })
        simp only [List.cons_append, List.nil_append, List.set_cons_zero] at hf3
        refine wpIn_mono (hbody _ (Init.right (L := [_, _]) hf3.toInit)) ?_
        have fin : ∀ (jump : Option Code) (K : Imm) (B'' : List Item) (w3 : World), Nx B' J (w1.putObj l (.loop { rec .ready none with state := .busy })) K B'' w3 →
            (Instr.endRound l jump).run P w3 = .ok (.bool jump.isNone) (w3.putObj l (.loop (rec (if jump.isNone then .ready else .done) jump))) ∧
            Nx (.obj l (.loop (rec .ready none)) :: .obj D (.deferred (some [])) :: B1) I w K (.obj l (.loop (rec (if jump.isNone then .ready else .done) jump)) :: .obj D (.deferred (some [])) :: B'') (w3.putObj l (.loop (rec (if jump.isNone then .ready else .done) jump))) := by
          intro jump K B'' w3 h3
          have g1 := Nx.call (L1 := B') (L2 := [.obj l (.loop { rec .ready none with state := .busy }), .obj D (.deferred (some []))])
            (hf3.perm (List.perm_append_comm (l₁ := [_, _]) (l₂ := B'))) h3
          have g2 := g1.perm (List.perm_append_comm (l₁ := B'') (l₂ := [.obj l (.loop { rec .ready none with state := .busy }), .obj D (.deferred (some []))]))
          have hl3 : w3.heap[l]? = some (.loop { rec .ready none with state := .busy }) := g2.get (i := 0) rfl
          have g3 := g2.putObj (i := 0) rfl (.loop (rec (if jump.isNone then .ready else .done) jump))
          simp only [List.cons_append, List.nil_append, List.set_cons_zero] at g3
          refine ⟨?_, g3⟩
          have := run_endRound (P := P) jump hl3
          rw [hrec] at this ⊢
          exact this
        rintro e a3 w3 hp
        cases e with
        | normal =>
          obtain ⟨K, B'', h3, hI3⟩ := hp
          obtain ⟨hr, hn⟩ := fin none K B'' w3 h3
          exact ⟨_, _, hr, .inl ⟨rfl, K, _, hn, B'', rfl, hI3⟩⟩
        | ret =>
          obtain ⟨K, B'', h3, hI3⟩ := hp
          obtain ⟨hr, hn⟩ := fin (some .ret) K B'' w3 h3
          exact ⟨_, _, hr, .inr ⟨rfl, K, _, hn, .ret, B'', rfl, hI3⟩⟩
        | exit id =>
          obtain ⟨K, B'', h3, hI3⟩ := hp
          obtain ⟨hr, hn⟩ := fin (some (.exit id)) K B'' w3 h3
          exact ⟨_, _, hr, .inr ⟨rfl, K, _, hn, .exit id, B'', rfl, hI3⟩⟩
        | goto t => exact hp.elim
        | panic ch => exact hp.elim
        | outgrown => exact hp.elim
      | exit id => exact he.elim
      | goto t => exact he.elim
      | ret => exact he.elim
      | panic ch => exact he.elim
      | outgrown => exact he.elim
    · rintro e w2 ⟨⟨v, rfl⟩, J, B', hnx, (⟨B1, rfl, hInv⟩ | ⟨pre, hpre, c, B1, rfl, hbad⟩)⟩
      · have h2 := hS2.trans hnx
        have hl2 : w2.heap[l]? = some (.loop (rec .ready none)) := h2.get (i := 0) rfl
        have h3 := (h2.putObj (i := 0) rfl (.loop { rec .ready none with state := .exhausted })).drop
        refine ⟨none, _, ?_, hdone D J B1 _ h3 hInv⟩
        have := run_endLoop (P := P) hl2 (by rw [hrec]; simp)
        rw [hrec] at this ⊢
        exact this
      · have h2 := hS2.trans hnx
        have hl2 : w2.heap[l]? = some (.loop (rec .done (some c))) := h2.get (i := 0) rfl
        have h3 := (h2.putObj (i := 0) rfl (.loop { rec .done (some c) with state := .exhausted })).drop
        refine ⟨some c, _, ?_, hstop D c pre J B1 _ h3 hpre hbad⟩
        have := run_endLoop (P := P) hl2 (by rw [hrec]; simp)
        rw [hrec] at this ⊢
        exact this
end Go.Proofs.YtmlgieclkedomaaGreat

namespace Go.Proofs.YtmlgieclkedomaaGreat
open Go

/-! ### numbers of scripts -/
/-- the digits by 256, the lowest first -/
def digs (n : Nat) : List UInt8 := if h : n = 0 then [] else UInt8.ofNat n :: digs (n / 256)
termination_by n
decreasing_by omega
/-- the same, each with whether it is the last -/
def partsL (n : Nat) : List (UInt8 × Bool) := if h : n = 0 then [] else (UInt8.ofNat n, decide (n / 256 = 0)) :: partsL (n / 256)
termination_by n
decreasing_by omega
theorem digs_zero : digs 0 = [] := by rw [digs]; rfl
theorem partsL_zero : partsL 0 = [] := by rw [partsL]; rfl
theorem digs_pos (n : Nat) (h : n ≠ 0) : digs n = UInt8.ofNat n :: digs (n / 256) := by rw [digs, dif_neg h]
theorem partsL_pos (n : Nat) (h : n ≠ 0) : partsL n = (UInt8.ofNat n, decide (n / 256 = 0)) :: partsL (n / 256) := by rw [partsL, dif_neg h]
theorem digs_length (k : Nat) : ∀ n, n < 256 ^ k → (digs n).length ≤ k := by
  induction k with
  | zero => intro n h; have : n = 0 := by simpa using h
            subst this; simp [digs_zero]
  | succ k ih =>
    intro n h
    by_cases h0 : n = 0
    · subst h0; simp [digs_zero]
    · rw [digs_pos n h0]
      have : n / 256 < 256 ^ k := by rw [Nat.div_lt_iff_lt_mul (by decide)]; rw [Nat.pow_succ] at h; omega
      have := ih _ this
      simp; omega

/-- what a part puts -/
def partOut (s : UInt8) (x : UInt8 × Bool) : List UInt8 := if x.2 then (if x.1 ≥ 128 then [x.1, s] else [x.1 ||| s]) else [x.1]
def signB (n : Int) : UInt8 := if n < 0 then 128 else 0
/-- a number's bytes -/
def numB (n : Int) : List UInt8 := (partsL n.natAbs).flatMap (partOut (signB n))

/-- only the last part is marked as last -/
theorem partsL_last (k : Nat) : ∀ n, n ≤ k → ∀ (pre rest : List (UInt8 × Bool)) (b : UInt8), partsL n = pre ++ (b, true) :: rest → rest = [] := by
  induction k with
  | zero =>
    intro n hn pre rest b h
    obtain rfl : n = 0 := by omega
    rw [partsL_zero] at h
    simp at h
  | succ k ih =>
    intro n hn pre rest b h
    by_cases h0 : n = 0
    · subst h0; rw [partsL_zero] at h; simp at h
    · rw [partsL_pos n h0] at h
      cases pre with
      | nil =>
        simp only [List.nil_append, List.cons.injEq, Prod.mk.injEq, decide_eq_true_eq] at h
        rw [← h.2, h.1.2, partsL_zero]
      | cons p pre =>
        simp only [List.cons_append, List.cons.injEq] at h
        exact ih (n / 256) (by omega) pre rest b h.2

theorem digs_snoc (k : Nat) : ∀ n, n ≤ k → n ≠ 0 → ∃ l b, digs n = l ++ [b] ∧ partsL n = l.map (fun c => (c, false)) ++ [(b, true)] ∧ b ≠ 0 := by
  induction k with
  | zero => intro n hn h0; omega
  | succ k ih =>
    intro n hn h0
    by_cases h1 : n / 256 = 0
    · refine ⟨[], UInt8.ofNat n, ?_, ?_, ?_⟩
      · rw [digs_pos n h0, h1, digs_zero]; rfl
      · rw [partsL_pos n h0, h1, partsL_zero]; rfl
      · intro h
        have : n < 256 := by omega
        have h2 := congrArg UInt8.toNat h
        simp at h2
        omega
    · obtain ⟨l, b, h2, h3, h4⟩ := ih (n / 256) (by omega) h1
      refine ⟨UInt8.ofNat n :: l, b, ?_, ?_, h4⟩
      · rw [digs_pos n h0, h2]; rfl
      · rw [partsL_pos n h0, h3]; simp [h1]

/-- the same by way of the digits: a byte more where the last is great; the sign -/
theorem numB_digs (n : Int) (h : n ≠ 0) : ∃ l b, digs n.natAbs = l ++ [b] ∧ b ≠ 0 ∧ numB n = l ++ (if b ≥ 128 then [b, signB n] else [b ||| signB n]) := by
  obtain ⟨l, b, h1, h2, h3⟩ := digs_snoc n.natAbs n.natAbs (Nat.le_refl _) (by omega)
  refine ⟨l, b, h1, h3, ?_⟩
  unfold numB
  rw [h2, List.flatMap_append, List.flatMap_map]
  congr 1
  · simp [partOut]
  · simp [partOut]
theorem numB_zero : numB 0 = [] := by simp [numB, partsL_zero]
theorem numB_length (n : Int) (k : Nat) (h : n.natAbs < 256 ^ k) : (numB n).length ≤ k + 1 := by
  by_cases h0 : n = 0
  · subst h0; simp [numB_zero]
  · obtain ⟨l, b, h1, _, h2⟩ := numB_digs n h0
    have := digs_length k _ h
    rw [h1] at this
    simp at this
    rw [h2]
    split <;> simp <;> omega

/-! ### bytes as values -/
theorem bits_or_u8 (a b : UInt8) : bits .or .u8 (a.toNat : Int) (b.toNat : Int) = ((a ||| b).toNat : Int) := by
  rw [(bits_nat .u8 8 (by decide) wraps_u8 a.toNat b.toNat a.toNat_lt b.toNat_lt).2, UInt8.toNat_or]
theorem bits_and_u8 (a b : UInt8) : bits .and .u8 (a.toNat : Int) (b.toNat : Int) = ((a &&& b).toNat : Int) := by
  rw [(bits_nat .u8 8 (by decide) wraps_u8 a.toNat b.toNat a.toNat_lt b.toNat_lt).1, UInt8.toNat_and]
theorem and_128 (b : UInt8) : (0 < (b &&& 128).toNat) ↔ b ≥ 128 := by
  have h : ∀ b : Fin 256, (0 < (UInt8.ofFin b &&& 128).toNat) ↔ UInt8.ofFin b ≥ 128 := by decide +kernel
  exact h b.toFin
theorem and128_pos (x : UInt8) (h : x ≥ 128) : 0 < bits .and .u8 (x.toNat : Int) 128 := by
  have h1 := bits_and_u8 x 128
  rw [show ((128 : UInt8).toNat : Int) = 128 from rfl] at h1
  rw [h1]
  exact_mod_cast (and_128 x).2 h
theorem and128_not (x : UInt8) (h : ¬ x ≥ 128) : ¬ 0 < bits .and .u8 (x.toNat : Int) 128 := by
  have h1 := bits_and_u8 x 128
  rw [show ((128 : UInt8).toNat : Int) = 128 from rfl] at h1
  rw [h1]
  exact_mod_cast mt (and_128 x).1 h
theorem partOut_no (s x : UInt8) : partOut s (x, false) = [x] := by simp [partOut]
theorem partOut_big (s x : UInt8) (h : x ≥ 128) : partOut s (x, true) = [x, s] := by simp only [partOut, if_pos h, if_true]
theorem partOut_small (s x : UInt8) (h : ¬ x ≥ 128) : partOut s (x, true) = [x ||| s] := by simp only [partOut, if_neg h, if_true]
theorem flatMap_snoc {α β : Type} (f : α → List β) (l : List α) (x : α) : (l ++ [x]).flatMap f = l.flatMap f ++ f x := by simp

/-! ### operations of scripts -/
structure OpS where
  code : UInt8
  data : List UInt8
deriving DecidableEq
def opMay (o : OpS) : Bool :=
  if o.code = 76 then decide (o.data.length ≤ 255) else if o.code = 77 then decide (o.data.length ≤ 65535)
  else if o.code ≤ 75 then decide (o.data.length = o.code.toNat) else decide (o.data.length = 0)
def opHead (c : UInt8) : Nat := if c = 77 then 2 else if c = 76 then 1 else 0
def opLen (o : OpS) : List UInt8 := (List.range (opHead o.code)).map fun i => UInt8.ofNat (o.data.length / 256 ^ i)
def opBytes (o : OpS) : List UInt8 := o.code :: (opLen o ++ o.data)
def joinL (l : List OpS) : List UInt8 := l.flatMap opBytes
def pushCode (b : List UInt8) : UInt8 := if b.length ≤ 75 then UInt8.ofNat b.length else if b.length ≤ 255 then 76 else 77
def pushOp (b : List UInt8) : OpS := ⟨pushCode b, b⟩
theorem pushOp_may (b : List UInt8) (h : b.length ≤ 65535) : opMay (pushOp b) = true := by
  unfold opMay pushOp pushCode
  by_cases h1 : b.length ≤ 75
  · simp only [if_pos h1]
    have e : (UInt8.ofNat b.length).toNat = b.length := by simp; omega
    have e1 : UInt8.ofNat b.length ≠ 76 := fun h => by have := congrArg UInt8.toNat h; rw [e] at this; simp at this; omega
    have e2 : UInt8.ofNat b.length ≠ 77 := fun h => by have := congrArg UInt8.toNat h; rw [e] at this; simp at this; omega
    rw [if_neg e1, if_neg e2, if_pos (by rw [UInt8.le_iff_toNat_le, e]; exact h1), e]
    simp
  · by_cases h2 : b.length ≤ 255
    · simp [if_neg h1, if_pos h2, h2]
    · simp [if_neg h1, if_neg h2, h]
theorem opBytes_length (o : OpS) : (opBytes o).length ≤ o.data.length + 3 := by
  unfold opBytes opLen opHead
  simp only [List.length_cons, List.length_append, List.length_map, List.length_range]
  split <;> (try split) <;> omega
/-- a script that pushes bytes -/
@[irreducible] def pushB (b : List UInt8) : List UInt8 := opBytes (pushOp b)
theorem pushB_eq (b : List UInt8) : pushB b = opBytes (pushOp b) := by unfold pushB; rfl
theorem joinL_append (a b : List OpS) : joinL (a ++ b) = joinL a ++ joinL b := by simp [joinL]
theorem joinL_take_le (l : List OpS) (k : Nat) : (joinL (l.take k)).length ≤ (joinL l).length := by
  have h := congrArg List.length (joinL_append (l.take k) (l.drop k))
  rw [List.take_append_drop, List.length_append] at h
  omega
theorem opLen_length (o : OpS) : (opLen o).length = opHead o.code := by simp [opLen]
theorem opHead_le (c : UInt8) : opHead c ≤ 2 := by unfold opHead; split <;> (try split) <;> omega
theorem opLen_take (o : OpS) (i : Nat) (h : i < opHead o.code) : (opLen o).take (i + 1) = (opLen o).take i ++ [UInt8.ofNat (o.data.length / 256 ^ i)] := by
  rw [List.take_succ_eq_append_getElem (by rw [opLen_length]; exact h)]
  simp [opLen]

end Go.Proofs.YtmlgieclkedomaaGreat

namespace Go.Proofs.YtmlgieclkedomaaGreat
open Go Go.RowKit
attribute [local go_sem] Oper.semAt_some

def natAt (w : World) (b : Nat) : Nat := match w.cell? ⟨b, 0, none⟩ with | some (.int _ n) => n.toNat | _ => 0
theorem natAt_of {w : World} {b : Nat} {k : IntKind} {n : Int} {e : TypeId} (h : w.heap[b]? = some (.cells #[.int k n] e (0, 0))) : natAt w b = n.toNat := by
  simp [natAt, World.cell?, h]

theorem size_spec {n : Int} {w : World} (h1 : -9223372036854775808 ≤ n) (h2 : n ≤ 9223372036854775807) :
    Calls Tryz.prog 81 #[.int .i64 n] w fun e w' => e = .returned (.int .u64 n.natAbs) ∧ w = w' := by
  by_cases h0 : n < 0
  · have hv : IntKind.u64.wrap (IntKind.i64.wrap (-n)) = (n.natAbs : Int) := by
      rw [IntKind.wrap_i64]; simp [IntKind.wrap, IntKind.bits, IntKind.signed]; omega
    have Hv := Lib.hid hv
    clear hv
    go_enter Tryz.func81, Tryz.ntmps81
    go_wp2
    go_ret
    refine ⟨?_, rfl⟩
    have := Hv.out
    simp [wrap64, IntKind.wrap, IntKind.bits, IntKind.signed] at this ⊢
    omega
  · go_enter Tryz.func81, Tryz.ntmps81
    go_wp2
    go_ret
    refine ⟨?_, rfl⟩
    simp
    omega

theorem dec256 (m : Nat) : decide (m / 256 = 0) = ((m : Int) / 256 == 0) := by
  rw [Bool.eq_iff_iff]; simp; omega

theorem parts1_emits {I : Imm} {w : World} {b n : Nat} (hn : n < 18446744073709551616) :
    Emits Tryz.prog 101 #[.pointer (some ⟨b, 0, none⟩)] (fun x : UInt8 × Bool => #[bv x.1, .bool x.2]) I w [.blk b [.int .u64 n] 117] (partsL n) := by
  intro l Inv Bad B hY hin h0
  have hS := hin.nx
  simp only [List.cons_append, List.nil_append] at hS
  (refine callsIn_of_wp Tryz.func101 rfl trivial ?_; simp only [Tryz.ntmps101, List.size_toArray, List.length_cons, List.length_nil, Nat.reduceAdd, Nat.reduceSub, Array.replicate_succ, Array.replicate_zero, List.push_toArray, List.append_toArray, List.nil_append, List.cons_append])
  gi_wp2_with fail
  gi_loopw [3] (fun _ wr => ∃ pre m J B', partsL n = pre ++ partsL m ∧ m ≤ n ∧ Nx ([.blk b [.int .u64 n] 117] ++ B) I w J (.blk b [.int .u64 m] 117 :: B') wr ∧ Inv pre J B') (fun _ wr => natAt wr b)
  case atStart => exact ⟨[], n, I, B, rfl, Nat.le_refl _, hS, h0⟩
  case round =>
    clear hS
    obtain ⟨pre, m, J, B', hx, hm, hS, hInv⟩ := hrel
    have hnat := natAt_of (hS.get (i := 0) rfl)
    have Hnat := Lib.hid hnat
    clear hnat
    by_cases hm0 : m = 0
    · subst hm0
      gi_wp2_with (first | ((with_reducible refine gN_load ?_); first | (refine sN_load hS rfl _ _ rfl _ _ rfl 0 _ _ rfl _ rfl ?_) | (refine sN_load hS rfl _ _ rfl _ _ rfl 1 _ _ rfl _ rfl ?_) | (refine sN_load hS rfl _ _ rfl _ _ rfl 2 _ _ rfl _ rfl ?_) | (refine sN_load hS rfl _ _ rfl _ _ rfl 3 _ _ rfl _ rfl ?_) | (refine sN_load hS rfl _ _ rfl _ _ rfl 4 _ _ rfl _ rfl ?_) | (refine sN_load hS rfl _ _ rfl _ _ rfl 5 _ _ rfl _ rfl ?_) | (refine sN_loadA hS rfl _ _ rfl _ _ rfl 0 _ _ rfl _ rfl rfl ?_) | (refine sN_loadA hS rfl _ _ rfl _ _ rfl 1 _ _ rfl _ rfl rfl ?_) | (refine sN_loadA hS rfl _ _ rfl _ _ rfl 2 _ _ rfl _ rfl rfl ?_) | (refine sN_loadA hS rfl _ _ rfl _ _ rfl 3 _ _ rfl _ rfl rfl ?_) | (refine sN_loadA hS rfl _ _ rfl _ _ rfl 4 _ _ rfl _ rfl rfl ?_) | (refine sN_loadA hS rfl _ _ rfl _ _ rfl 5 _ _ rfl _ rfl rfl ?_)))
      refine bodyPost_end (results_none rfl _ _ _) rfl ⟨⟨_, rfl⟩, J, B', hS.drop, .inl ?_⟩
      rw [hx]; simpa [partsL_zero] using hInv
    · have hpos : 0 < m := by omega
      gi_wp2_with (first | ((with_reducible refine gN_load ?_); first | (refine sN_load hS rfl _ _ rfl _ _ rfl 0 _ _ rfl _ rfl ?_) | (refine sN_load hS rfl _ _ rfl _ _ rfl 1 _ _ rfl _ rfl ?_) | (refine sN_load hS rfl _ _ rfl _ _ rfl 2 _ _ rfl _ rfl ?_) | (refine sN_load hS rfl _ _ rfl _ _ rfl 3 _ _ rfl _ rfl ?_) | (refine sN_load hS rfl _ _ rfl _ _ rfl 4 _ _ rfl _ rfl ?_) | (refine sN_load hS rfl _ _ rfl _ _ rfl 5 _ _ rfl _ rfl ?_) | (refine sN_loadA hS rfl _ _ rfl _ _ rfl 0 _ _ rfl _ rfl rfl ?_) | (refine sN_loadA hS rfl _ _ rfl _ _ rfl 1 _ _ rfl _ rfl rfl ?_) | (refine sN_loadA hS rfl _ _ rfl _ _ rfl 2 _ _ rfl _ rfl rfl ?_) | (refine sN_loadA hS rfl _ _ rfl _ _ rfl 3 _ _ rfl _ rfl rfl ?_) | (refine sN_loadA hS rfl _ _ rfl _ _ rfl 4 _ _ rfl _ rfl rfl ?_) | (refine sN_loadA hS rfl _ _ rfl _ _ rfl 5 _ _ rfl _ rfl rfl ?_)) | ((with_reducible refine gN_store ?_); first | (refine sN_store hS rfl _ _ _ rfl _ _ rfl 0 _ _ rfl _ (by go_simp; first | exact rfl | exact ⟨rfl, rfl⟩) rfl (by simp) ?_; clear hS; intro w' hS; simp only [List.set_cons_zero] at hS) | (refine sN_store hS rfl _ _ _ rfl _ _ rfl 1 _ _ rfl _ (by go_simp; first | exact rfl | exact ⟨rfl, rfl⟩) rfl (by simp) ?_; clear hS; intro w' hS; simp only [List.set_cons_zero, List.set_cons_succ] at hS) | (refine sN_store hS rfl _ _ _ rfl _ _ rfl 2 _ _ rfl _ (by go_simp; first | exact rfl | exact ⟨rfl, rfl⟩) rfl (by simp) ?_; clear hS; intro w' hS; simp only [List.set_cons_zero, List.set_cons_succ] at hS) | (refine sN_store hS rfl _ _ _ rfl _ _ rfl 3 _ _ rfl _ (by go_simp; first | exact rfl | exact ⟨rfl, rfl⟩) rfl (by simp) ?_; clear hS; intro w' hS; simp only [List.set_cons_zero, List.set_cons_succ] at hS) | (refine sN_store hS rfl _ _ _ rfl _ _ rfl 4 _ _ rfl _ (by go_simp; first | exact rfl | exact ⟨rfl, rfl⟩) rfl (by simp) ?_; clear hS; intro w' hS; simp only [List.set_cons_zero, List.set_cons_succ] at hS) | (refine sN_store hS rfl _ _ _ rfl _ _ rfl 5 _ _ rfl _ (by go_simp; first | exact rfl | exact ⟨rfl, rfl⟩) rfl (by simp) ?_; clear hS; intro w' hS; simp only [List.set_cons_zero, List.set_cons_succ] at hS) | (refine sN_storeB hS rfl _ _ _ rfl _ rfl 0 _ _ rfl _ (by go_simp; first | exact rfl | exact ⟨rfl, rfl⟩) (by rfl) (by rfl) (by simp [Value.oneCell']) ?_; clear hS; intro w' hS; simp only [List.set_cons_zero] at hS) | (refine sN_storeB hS rfl _ _ _ rfl _ rfl 1 _ _ rfl _ (by go_simp; first | exact rfl | exact ⟨rfl, rfl⟩) (by rfl) (by rfl) (by simp [Value.oneCell']) ?_; clear hS; intro w' hS; simp only [List.set_cons_zero, List.set_cons_succ] at hS) | (refine sN_storeB hS rfl _ _ _ rfl _ rfl 2 _ _ rfl _ (by go_simp; first | exact rfl | exact ⟨rfl, rfl⟩) (by rfl) (by rfl) (by simp [Value.oneCell']) ?_; clear hS; intro w' hS; simp only [List.set_cons_zero, List.set_cons_succ] at hS) | (refine sN_storeB hS rfl _ _ _ rfl _ rfl 3 _ _ rfl _ (by go_simp; first | exact rfl | exact ⟨rfl, rfl⟩) (by rfl) (by rfl) (by simp [Value.oneCell']) ?_; clear hS; intro w' hS; simp only [List.set_cons_zero, List.set_cons_succ] at hS) | (refine sN_storeB hS rfl _ _ _ rfl _ rfl 4 _ _ rfl _ (by go_simp; first | exact rfl | exact ⟨rfl, rfl⟩) (by rfl) (by rfl) (by simp [Value.oneCell']) ?_; clear hS; intro w' hS; simp only [List.set_cons_zero, List.set_cons_succ] at hS) | (refine sN_storeB hS rfl _ _ _ rfl _ rfl 5 _ _ rfl _ (by go_simp; first | exact rfl | exact ⟨rfl, rfl⟩) (by rfl) (by rfl) (by simp [Value.oneCell']) ?_; clear hS; intro w' hS; simp only [List.set_cons_zero, List.set_cons_succ] at hS)))
      have hpre : pre ++ [(UInt8.ofNat m, decide (m / 256 = 0))] <+: partsL n := by
        rw [hx, partsL_pos m hm0]; exact ⟨partsL (m / 256), by simp⟩
      refine hY.at (Lit := [_]) hS (UInt8.ofNat m, decide (m / 256 = 0)) hpre hInv ?_ (fun J2 B2 w2 hS2 hI2 => ?_) (fun J2 B2 w2 hS2 hb2 => ?_)
      · rw [dec256]
        simp [bv]
      · gi_wp2_with fail
        refine ⟨⟨_, m / 256, J2, B2, ?_, by omega, hS2, hI2⟩, ?_⟩
        · rw [hx, partsL_pos m hm0]; simp
        · rw [natAt_of (hS2.get (i := 0) rfl), Hnat.out]
          omega
      · gi_wp2_with fail
        refine bodyPost_ret (results_none rfl _ _ _) rfl ⟨⟨_, rfl⟩, J2, B2, Nx.drop (L := B2) hS2, .inr ⟨_, hpre, hb2⟩⟩

theorem parts_spec {I : Imm} {w : World} {n : Nat} (hI : I.Holds w) :
    Calls Tryz.prog 80 #[.int .u64 n] w fun e w' => ∃ b, e = .returned (.func (.func 101) #[] #[.pointer (some ⟨b, 0, none⟩)]) ∧ Nx [] I w I [.blk b [.int .u64 n] 117] w' := by
  have hS := Nx.nil hI
  have hmf : ∀ (fn : Fn) (first cap : Array Value) (w : World), (Instr.makeFunc fn first cap).run Tryz.prog w = .ok (.func fn first cap) w := fun _ _ _ _ => rfl
  go_enter Tryz.func80, Tryz.ntmps80
  go_wp2_with (first | ((with_reducible refine gL_load ?_); first | (refine sL_load hS rfl _ _ rfl _ _ rfl 0 _ _ rfl _ rfl ?_) | (refine sL_load hS rfl _ _ rfl _ _ rfl 1 _ _ rfl _ rfl ?_) | (refine sL_load hS rfl _ _ rfl _ _ rfl 2 _ _ rfl _ rfl ?_) | (refine sL_load hS rfl _ _ rfl _ _ rfl 3 _ _ rfl _ rfl ?_) | (refine sL_load hS rfl _ _ rfl _ _ rfl 4 _ _ rfl _ rfl ?_) | (refine sL_load hS rfl _ _ rfl _ _ rfl 5 _ _ rfl _ rfl ?_) | (refine sL_loadA hS rfl _ _ rfl _ _ rfl 0 _ _ rfl _ rfl rfl ?_) | (refine sL_loadA hS rfl _ _ rfl _ _ rfl 1 _ _ rfl _ rfl rfl ?_) | (refine sL_loadA hS rfl _ _ rfl _ _ rfl 2 _ _ rfl _ rfl rfl ?_) | (refine sL_loadA hS rfl _ _ rfl _ _ rfl 3 _ _ rfl _ rfl rfl ?_) | (refine sL_loadA hS rfl _ _ rfl _ _ rfl 4 _ _ rfl _ rfl rfl ?_) | (refine sL_loadA hS rfl _ _ rfl _ _ rfl 5 _ _ rfl _ rfl rfl ?_)) | ((with_reducible refine gL_store ?_); first | (refine sL_store hS rfl _ _ _ rfl _ _ rfl 0 _ _ rfl _ (by go_simp; first | exact rfl | exact ⟨rfl, rfl⟩) rfl (by simp) ?_; clear hS; intro w' hS; simp only [List.set_cons_zero] at hS) | (refine sL_store hS rfl _ _ _ rfl _ _ rfl 1 _ _ rfl _ (by go_simp; first | exact rfl | exact ⟨rfl, rfl⟩) rfl (by simp) ?_; clear hS; intro w' hS; simp only [List.set_cons_zero, List.set_cons_succ] at hS) | (refine sL_store hS rfl _ _ _ rfl _ _ rfl 2 _ _ rfl _ (by go_simp; first | exact rfl | exact ⟨rfl, rfl⟩) rfl (by simp) ?_; clear hS; intro w' hS; simp only [List.set_cons_zero, List.set_cons_succ] at hS) | (refine sL_store hS rfl _ _ _ rfl _ _ rfl 3 _ _ rfl _ (by go_simp; first | exact rfl | exact ⟨rfl, rfl⟩) rfl (by simp) ?_; clear hS; intro w' hS; simp only [List.set_cons_zero, List.set_cons_succ] at hS) | (refine sL_store hS rfl _ _ _ rfl _ _ rfl 4 _ _ rfl _ (by go_simp; first | exact rfl | exact ⟨rfl, rfl⟩) rfl (by simp) ?_; clear hS; intro w' hS; simp only [List.set_cons_zero, List.set_cons_succ] at hS) | (refine sL_store hS rfl _ _ _ rfl _ _ rfl 5 _ _ rfl _ (by go_simp; first | exact rfl | exact ⟨rfl, rfl⟩) rfl (by simp) ?_; clear hS; intro w' hS; simp only [List.set_cons_zero, List.set_cons_succ] at hS) | (refine sL_storeB hS rfl _ _ _ rfl _ rfl 0 _ _ rfl _ (by go_simp; first | exact rfl | exact ⟨rfl, rfl⟩) (by rfl) (by rfl) (by simp [Value.oneCell']) ?_; clear hS; intro w' hS; simp only [List.set_cons_zero] at hS) | (refine sL_storeB hS rfl _ _ _ rfl _ rfl 1 _ _ rfl _ (by go_simp; first | exact rfl | exact ⟨rfl, rfl⟩) (by rfl) (by rfl) (by simp [Value.oneCell']) ?_; clear hS; intro w' hS; simp only [List.set_cons_zero, List.set_cons_succ] at hS) | (refine sL_storeB hS rfl _ _ _ rfl _ rfl 2 _ _ rfl _ (by go_simp; first | exact rfl | exact ⟨rfl, rfl⟩) (by rfl) (by rfl) (by simp [Value.oneCell']) ?_; clear hS; intro w' hS; simp only [List.set_cons_zero, List.set_cons_succ] at hS) | (refine sL_storeB hS rfl _ _ _ rfl _ rfl 3 _ _ rfl _ (by go_simp; first | exact rfl | exact ⟨rfl, rfl⟩) (by rfl) (by rfl) (by simp [Value.oneCell']) ?_; clear hS; intro w' hS; simp only [List.set_cons_zero, List.set_cons_succ] at hS) | (refine sL_storeB hS rfl _ _ _ rfl _ rfl 4 _ _ rfl _ (by go_simp; first | exact rfl | exact ⟨rfl, rfl⟩) (by rfl) (by rfl) (by simp [Value.oneCell']) ?_; clear hS; intro w' hS; simp only [List.set_cons_zero, List.set_cons_succ] at hS) | (refine sL_storeB hS rfl _ _ _ rfl _ rfl 5 _ _ rfl _ (by go_simp; first | exact rfl | exact ⟨rfl, rfl⟩) (by rfl) (by rfl) (by simp [Value.oneCell']) ?_; clear hS; intro w' hS; simp only [List.set_cons_zero, List.set_cons_succ] at hS)) | ((with_reducible refine gL_alloc ?_); (refine sL_alloc hS rfl _ rfl ?_; clear hS; intro b w' hb hS)) | ((with_reducible refine gL_box ?_); (refine sL_box hS rfl _ _ rfl _ (by go_simp; first | exact rfl | exact ⟨rfl, rfl⟩) ?_; clear hS; intro b w' hb hS)))
  go_ret
  exact ⟨_, rfl, hS⟩

theorem outOf_le (s : UInt8) : ∀ l : List (UInt8 × Bool), (l.flatMap (partOut s)).length ≤ 2 * l.length
  | [] => by simp
  | x :: l => by
    have := outOf_le s l
    simp only [List.flatMap_cons, List.length_append, List.length_cons]
    have h1 : (partOut s x).length ≤ 2 := by unfold partOut; split <;> (try split) <;> simp
    omega
theorem partsL_len (k : Nat) : ∀ n, n < 256 ^ k → (partsL n).length ≤ k := by
  induction k with
  | zero => intro n h; have : n = 0 := by simpa using h
            subst this; simp [partsL_zero]
  | succ k ih =>
    intro n h
    by_cases h0 : n = 0
    · subst h0; simp [partsL_zero]
    · rw [partsL_pos n h0]
      have : n / 256 < 256 ^ k := by rw [Nat.div_lt_iff_lt_mul (by decide)]; rw [Nat.pow_succ] at h; omega
      have := ih _ this
      simp; omega

def formInv (sg : UInt8) (I : Imm) (bo bs : Nat) (pre : List (UInt8 × Bool)) (I1 : Imm) (B : List Item) : Prop :=
  I1 = I ∧ ∃ out ad c, Hid (out = pre.flatMap (partOut sg)) ∧ B = [.row 1 5 (.slice ad out.length c) out.length (bvs out), .blk bs [bv sg] 5, .blk bo [.slice ad out.length c] 22]
def formBad (sg : UInt8) (I : Imm) (bo bs : Nat) (c : Code) (pre : List (UInt8 × Bool)) (I1 : Imm) (B : List Item) : Prop :=
  c = .exit 0 ∧ (∃ p b, pre = p ++ [(b, true)]) ∧ formInv sg I bo bs pre I1 B

set_option maxRecDepth 100000 in
set_option maxHeartbeats 1000000 in
theorem form_spec {I : Imm} {w : World} {n : Int} (hI : I.Holds w) (h1 : -9223372036854775808 ≤ n) (h2 : n ≤ 9223372036854775807) :
    Calls Tryz.prog 59 #[.int .i64 n] w fun e w' => ∃ v, e = .returned v ∧ Nx [] I w I [.row 1 5 v (numB n).length (bvs (numB n))] w' := by
  refine (callsIn_wide (n := 0)).1 ?_
  have hS := Nx.nil hI
  obtain ⟨sg, hsg⟩ : ∃ sg, sg = signB n := ⟨_, rfl⟩
  have Hsg := Lib.hid hsg
  have Hnum : Hid (numB n = (partsL n.natAbs).flatMap (partOut sg)) := Lib.hid (by rw [hsg]; rfl)
  have Hlen : (partsL n.natAbs).length ≤ 8 := partsL_len 8 _ (by omega)
  have Hn : n.natAbs < 18446744073709551616 := by omega
  clear hsg
  (refine callsIn_of_wp_marks Tryz.func59 rfl trivial ?_; simp only [Tryz.ntmps59, List.size_toArray, List.length_cons, List.length_nil, Nat.reduceAdd, Nat.reduceSub, Array.replicate_succ, Array.replicate_zero, List.push_toArray, List.append_toArray, List.nil_append, List.cons_append])
  gi_wp2_with (first | (refine sN_alloc hS rfl 22 rfl ?_; clear hS; intro bo w' hbo hS) | (refine sN_alloc hS rfl 5 rfl ?_; clear hS; intro bs w' hbs hS) | (first | with_reducible refine wpIn_scope_straight ?_ | with_reducible refine wpIn_label ?_ | ((with_reducible refine gN_load ?_); first | (refine sN_load hS rfl _ _ rfl _ _ rfl 0 _ _ rfl _ rfl ?_) | (refine sN_load hS rfl _ _ rfl _ _ rfl 1 _ _ rfl _ rfl ?_) | (refine sN_load hS rfl _ _ rfl _ _ rfl 2 _ _ rfl _ rfl ?_) | (refine sN_load hS rfl _ _ rfl _ _ rfl 3 _ _ rfl _ rfl ?_) | (refine sN_load hS rfl _ _ rfl _ _ rfl 4 _ _ rfl _ rfl ?_) | (refine sN_load hS rfl _ _ rfl _ _ rfl 5 _ _ rfl _ rfl ?_) | (refine sN_loadA hS rfl _ _ rfl _ _ rfl 0 _ _ rfl _ rfl rfl ?_) | (refine sN_loadA hS rfl _ _ rfl _ _ rfl 1 _ _ rfl _ rfl rfl ?_) | (refine sN_loadA hS rfl _ _ rfl _ _ rfl 2 _ _ rfl _ rfl rfl ?_) | (refine sN_loadA hS rfl _ _ rfl _ _ rfl 3 _ _ rfl _ rfl rfl ?_) | (refine sN_loadA hS rfl _ _ rfl _ _ rfl 4 _ _ rfl _ rfl rfl ?_) | (refine sN_loadA hS rfl _ _ rfl _ _ rfl 5 _ _ rfl _ rfl rfl ?_)) | ((with_reducible refine gN_store ?_); first | (refine sN_store hS rfl _ _ _ rfl _ _ rfl 0 _ _ rfl _ (by go_simp; first | exact rfl | exact ⟨rfl, rfl⟩) rfl (by simp) ?_; clear hS; intro w' hS; simp only [List.set_cons_zero] at hS) | (refine sN_store hS rfl _ _ _ rfl _ _ rfl 1 _ _ rfl _ (by go_simp; first | exact rfl | exact ⟨rfl, rfl⟩) rfl (by simp) ?_; clear hS; intro w' hS; simp only [List.set_cons_zero, List.set_cons_succ] at hS) | (refine sN_store hS rfl _ _ _ rfl _ _ rfl 2 _ _ rfl _ (by go_simp; first | exact rfl | exact ⟨rfl, rfl⟩) rfl (by simp) ?_; clear hS; intro w' hS; simp only [List.set_cons_zero, List.set_cons_succ] at hS) | (refine sN_store hS rfl _ _ _ rfl _ _ rfl 3 _ _ rfl _ (by go_simp; first | exact rfl | exact ⟨rfl, rfl⟩) rfl (by simp) ?_; clear hS; intro w' hS; simp only [List.set_cons_zero, List.set_cons_succ] at hS) | (refine sN_store hS rfl _ _ _ rfl _ _ rfl 4 _ _ rfl _ (by go_simp; first | exact rfl | exact ⟨rfl, rfl⟩) rfl (by simp) ?_; clear hS; intro w' hS; simp only [List.set_cons_zero, List.set_cons_succ] at hS) | (refine sN_store hS rfl _ _ _ rfl _ _ rfl 5 _ _ rfl _ (by go_simp; first | exact rfl | exact ⟨rfl, rfl⟩) rfl (by simp) ?_; clear hS; intro w' hS; simp only [List.set_cons_zero, List.set_cons_succ] at hS) | (refine sN_storeB hS rfl _ _ _ rfl _ rfl 0 _ _ rfl _ (by go_simp; first | exact rfl | exact ⟨rfl, rfl⟩) (by rfl) (by rfl) (by simp [Value.oneCell']) ?_; clear hS; intro w' hS; simp only [List.set_cons_zero] at hS) | (refine sN_storeB hS rfl _ _ _ rfl _ rfl 1 _ _ rfl _ (by go_simp; first | exact rfl | exact ⟨rfl, rfl⟩) (by rfl) (by rfl) (by simp [Value.oneCell']) ?_; clear hS; intro w' hS; simp only [List.set_cons_zero, List.set_cons_succ] at hS) | (refine sN_storeB hS rfl _ _ _ rfl _ rfl 2 _ _ rfl _ (by go_simp; first | exact rfl | exact ⟨rfl, rfl⟩) (by rfl) (by rfl) (by simp [Value.oneCell']) ?_; clear hS; intro w' hS; simp only [List.set_cons_zero, List.set_cons_succ] at hS) | (refine sN_storeB hS rfl _ _ _ rfl _ rfl 3 _ _ rfl _ (by go_simp; first | exact rfl | exact ⟨rfl, rfl⟩) (by rfl) (by rfl) (by simp [Value.oneCell']) ?_; clear hS; intro w' hS; simp only [List.set_cons_zero, List.set_cons_succ] at hS) | (refine sN_storeB hS rfl _ _ _ rfl _ rfl 4 _ _ rfl _ (by go_simp; first | exact rfl | exact ⟨rfl, rfl⟩) (by rfl) (by rfl) (by simp [Value.oneCell']) ?_; clear hS; intro w' hS; simp only [List.set_cons_zero, List.set_cons_succ] at hS) | (refine sN_storeB hS rfl _ _ _ rfl _ rfl 5 _ _ rfl _ (by go_simp; first | exact rfl | exact ⟨rfl, rfl⟩) (by rfl) (by rfl) (by simp [Value.oneCell']) ?_; clear hS; intro w' hS; simp only [List.set_cons_zero, List.set_cons_succ] at hS)) | ((with_reducible refine gN_alloc ?_); (refine sN_alloc hS rfl _ rfl ?_; clear hS; intro b w' hb hS)) | ((with_reducible refine gN_box ?_); (refine sN_box hS rfl _ _ rfl _ (by go_simp; first | exact rfl | exact ⟨rfl, rfl⟩) ?_; clear hS; intro b w' hb hS))) | (refine ⟨trivial, rfl, ?_⟩; gi_at_call 81; refine (callsIn_wide.2 (size_spec (by omega) (by omega))).mono ?_; rintro e w' ⟨rfl, rfl⟩) | (refine ⟨trivial, rfl, ?_⟩; gi_at_call 80; refine (callsIn_wide.2 (parts_spec hS.hI)).mono ?_; rintro e w' ⟨bp, rfl, hn⟩; replace hS := hS.pure hn; clear hn))
  all_goals
    have hsv : Nx [] I w I (.blk bp [Value.int IntKind.u64 n.natAbs] 117 :: [Item.blk bs [bv sg] 5, Item.blk bo [Value.slice none 0 0] 22]) w' := by
      have e : (sg = 128 ∧ n < 0) ∨ (sg = 0 ∧ 0 ≤ n) := by
        rw [Hsg.out]; unfold signB
        by_cases h0 : n < 0
        · rw [if_pos h0]; exact .inl ⟨rfl, h0⟩
        · rw [if_neg h0]; exact .inr ⟨rfl, by omega⟩
      rcases e with ⟨rfl, _⟩ | ⟨rfl, _⟩ <;> first | exact hS | (exfalso; omega)
    clear hS
    have hS := (hsv.nilRow 1 5).swap
    clear hsv
    refine wpIn_rangeN (α := UInt8 × Bool) (gf := 101) rfl (enters_of Tryz.func101 (by kernel_rfl) rfl) (Lit := [_]) hS (fun w1 h1 => parts1_emits Hn) (fun _ => rfl)
      (formInv sg I bo bs) (formBad sg I bo bs) ⟨rfl, [], _, _, Lib.hid rfl, rfl⟩ ?round ?done ?stop
    case round =>
      clear hS
      rintro l pre ⟨x, last⟩ I1 B w1 hpre hin ⟨rfl, out, ad, c, Hout, rfl⟩
      have hle : out.length ≤ 2 * pre.length := by rw [Hout.out]; exact outOf_le sg pre
      have hpl : pre.length + 1 ≤ 8 := by
        have := hpre.length_le
        simp at this
        omega
      gi_wp2_with fail
      refine ⟨_, _, hin.nx, fun w2 hin2 => ?_⟩
      have hS := hin2.nx
      clear hin hin2 hpre
      cases last with
      | false =>
        gi_wp2_with (first | ((with_reducible refine gN_load ?_); first | (refine sN_load hS rfl _ _ rfl _ _ rfl 0 _ _ rfl _ rfl ?_) | (refine sN_load hS rfl _ _ rfl _ _ rfl 1 _ _ rfl _ rfl ?_) | (refine sN_load hS rfl _ _ rfl _ _ rfl 2 _ _ rfl _ rfl ?_) | (refine sN_load hS rfl _ _ rfl _ _ rfl 3 _ _ rfl _ rfl ?_) | (refine sN_load hS rfl _ _ rfl _ _ rfl 4 _ _ rfl _ rfl ?_) | (refine sN_load hS rfl _ _ rfl _ _ rfl 5 _ _ rfl _ rfl ?_) | (refine sN_loadA hS rfl _ _ rfl _ _ rfl 0 _ _ rfl _ rfl rfl ?_) | (refine sN_loadA hS rfl _ _ rfl _ _ rfl 1 _ _ rfl _ rfl rfl ?_) | (refine sN_loadA hS rfl _ _ rfl _ _ rfl 2 _ _ rfl _ rfl rfl ?_) | (refine sN_loadA hS rfl _ _ rfl _ _ rfl 3 _ _ rfl _ rfl rfl ?_) | (refine sN_loadA hS rfl _ _ rfl _ _ rfl 4 _ _ rfl _ rfl rfl ?_) | (refine sN_loadA hS rfl _ _ rfl _ _ rfl 5 _ _ rfl _ rfl rfl ?_)) | ((with_reducible refine gN_lit ?_); first | (refine sN_lit0 hS rfl _ rfl ?_; clear hS; intro b w' hb hS) | (refine sN_lit1 hS rfl _ _ rfl _ (by go_simp; first | exact rfl | exact ⟨rfl, rfl⟩) rfl ?_; clear hS; intro b w' hb hS) | (refine sN_lit2 hS rfl _ _ _ rfl _ _ (by go_simp; first | exact rfl | exact ⟨rfl, rfl⟩) (by go_simp; first | exact rfl | exact ⟨rfl, rfl⟩) rfl rfl ?_; clear hS; intro b w' hb hS) | (refine sN_lit12 hS rfl _ _ rfl _ _ (by go_simp; first | exact rfl | exact ⟨rfl, rfl⟩) ?_; clear hS; intro b w' hb hS)) | ((with_reducible refine gN_store ?_); first | (refine sN_store hS rfl _ _ _ rfl _ _ rfl 0 _ _ rfl _ (by go_simp; first | exact rfl | exact ⟨rfl, rfl⟩) rfl (by simp) ?_; clear hS; intro w' hS; simp only [List.set_cons_zero] at hS) | (refine sN_store hS rfl _ _ _ rfl _ _ rfl 1 _ _ rfl _ (by go_simp; first | exact rfl | exact ⟨rfl, rfl⟩) rfl (by simp) ?_; clear hS; intro w' hS; simp only [List.set_cons_zero, List.set_cons_succ] at hS) | (refine sN_store hS rfl _ _ _ rfl _ _ rfl 2 _ _ rfl _ (by go_simp; first | exact rfl | exact ⟨rfl, rfl⟩) rfl (by simp) ?_; clear hS; intro w' hS; simp only [List.set_cons_zero, List.set_cons_succ] at hS) | (refine sN_store hS rfl _ _ _ rfl _ _ rfl 3 _ _ rfl _ (by go_simp; first | exact rfl | exact ⟨rfl, rfl⟩) rfl (by simp) ?_; clear hS; intro w' hS; simp only [List.set_cons_zero, List.set_cons_succ] at hS) | (refine sN_store hS rfl _ _ _ rfl _ _ rfl 4 _ _ rfl _ (by go_simp; first | exact rfl | exact ⟨rfl, rfl⟩) rfl (by simp) ?_; clear hS; intro w' hS; simp only [List.set_cons_zero, List.set_cons_succ] at hS) | (refine sN_store hS rfl _ _ _ rfl _ _ rfl 5 _ _ rfl _ (by go_simp; first | exact rfl | exact ⟨rfl, rfl⟩) rfl (by simp) ?_; clear hS; intro w' hS; simp only [List.set_cons_zero, List.set_cons_succ] at hS) | (refine sN_storeB hS rfl _ _ _ rfl _ rfl 0 _ _ rfl _ (by go_simp; first | exact rfl | exact ⟨rfl, rfl⟩) (by rfl) (by rfl) (by simp [Value.oneCell']) ?_; clear hS; intro w' hS; simp only [List.set_cons_zero] at hS) | (refine sN_storeB hS rfl _ _ _ rfl _ rfl 1 _ _ rfl _ (by go_simp; first | exact rfl | exact ⟨rfl, rfl⟩) (by rfl) (by rfl) (by simp [Value.oneCell']) ?_; clear hS; intro w' hS; simp only [List.set_cons_zero, List.set_cons_succ] at hS) | (refine sN_storeB hS rfl _ _ _ rfl _ rfl 2 _ _ rfl _ (by go_simp; first | exact rfl | exact ⟨rfl, rfl⟩) (by rfl) (by rfl) (by simp [Value.oneCell']) ?_; clear hS; intro w' hS; simp only [List.set_cons_zero, List.set_cons_succ] at hS) | (refine sN_storeB hS rfl _ _ _ rfl _ rfl 3 _ _ rfl _ (by go_simp; first | exact rfl | exact ⟨rfl, rfl⟩) (by rfl) (by rfl) (by simp [Value.oneCell']) ?_; clear hS; intro w' hS; simp only [List.set_cons_zero, List.set_cons_succ] at hS) | (refine sN_storeB hS rfl _ _ _ rfl _ rfl 4 _ _ rfl _ (by go_simp; first | exact rfl | exact ⟨rfl, rfl⟩) (by rfl) (by rfl) (by simp [Value.oneCell']) ?_; clear hS; intro w' hS; simp only [List.set_cons_zero, List.set_cons_succ] at hS) | (refine sN_storeB hS rfl _ _ _ rfl _ rfl 5 _ _ rfl _ (by go_simp; first | exact rfl | exact ⟨rfl, rfl⟩) (by rfl) (by rfl) (by simp [Value.oneCell']) ?_; clear hS; intro w' hS; simp only [List.set_cons_zero, List.set_cons_succ] at hS)) | ((with_reducible refine gN_app ?_); (refine sN_append hS rfl _ _ _ rfl 1 _ _ _ rfl rfl _ _ _ _ rfl (by first | (simp; done) | (simp only [List.length_map]; omega)) (hS.srcBlk (i := 0) rfl) (by simp [Value.oneCell']) (by first | omega | (simp only [List.length_append, List.length_cons, List.length_nil]; omega)) ?_; clear hS; intro ad' c' w' hS hnil hown; simp only [List.set_cons_zero, List.set_cons_succ] at hS; replace hS := hS.drop)))
        exact ⟨_, _, hS, rfl, out ++ [x], ad', c', Lib.hid (by rw [flatMap_snoc, partOut_no, ← Hout.out]), by simp⟩
      | true =>
        by_cases hbig : x ≥ 128
        · have hb1 := and128_pos x hbig
          gi_wp2_with (first | ((with_reducible refine gN_load ?_); first | (refine sN_load hS rfl _ _ rfl _ _ rfl 0 _ _ rfl _ rfl ?_) | (refine sN_load hS rfl _ _ rfl _ _ rfl 1 _ _ rfl _ rfl ?_) | (refine sN_load hS rfl _ _ rfl _ _ rfl 2 _ _ rfl _ rfl ?_) | (refine sN_load hS rfl _ _ rfl _ _ rfl 3 _ _ rfl _ rfl ?_) | (refine sN_load hS rfl _ _ rfl _ _ rfl 4 _ _ rfl _ rfl ?_) | (refine sN_load hS rfl _ _ rfl _ _ rfl 5 _ _ rfl _ rfl ?_) | (refine sN_loadA hS rfl _ _ rfl _ _ rfl 0 _ _ rfl _ rfl rfl ?_) | (refine sN_loadA hS rfl _ _ rfl _ _ rfl 1 _ _ rfl _ rfl rfl ?_) | (refine sN_loadA hS rfl _ _ rfl _ _ rfl 2 _ _ rfl _ rfl rfl ?_) | (refine sN_loadA hS rfl _ _ rfl _ _ rfl 3 _ _ rfl _ rfl rfl ?_) | (refine sN_loadA hS rfl _ _ rfl _ _ rfl 4 _ _ rfl _ rfl rfl ?_) | (refine sN_loadA hS rfl _ _ rfl _ _ rfl 5 _ _ rfl _ rfl rfl ?_)) | ((with_reducible refine gN_lit ?_); first | (refine sN_lit0 hS rfl _ rfl ?_; clear hS; intro b w' hb hS) | (refine sN_lit1 hS rfl _ _ rfl _ (by go_simp; first | exact rfl | exact ⟨rfl, rfl⟩) rfl ?_; clear hS; intro b w' hb hS) | (refine sN_lit2 hS rfl _ _ _ rfl _ _ (by go_simp; first | exact rfl | exact ⟨rfl, rfl⟩) (by go_simp; first | exact rfl | exact ⟨rfl, rfl⟩) rfl rfl ?_; clear hS; intro b w' hb hS) | (refine sN_lit12 hS rfl _ _ rfl _ _ (by go_simp; first | exact rfl | exact ⟨rfl, rfl⟩) ?_; clear hS; intro b w' hb hS)) | ((with_reducible refine gN_store ?_); first | (refine sN_store hS rfl _ _ _ rfl _ _ rfl 0 _ _ rfl _ (by go_simp; first | exact rfl | exact ⟨rfl, rfl⟩) rfl (by simp) ?_; clear hS; intro w' hS; simp only [List.set_cons_zero] at hS) | (refine sN_store hS rfl _ _ _ rfl _ _ rfl 1 _ _ rfl _ (by go_simp; first | exact rfl | exact ⟨rfl, rfl⟩) rfl (by simp) ?_; clear hS; intro w' hS; simp only [List.set_cons_zero, List.set_cons_succ] at hS) | (refine sN_store hS rfl _ _ _ rfl _ _ rfl 2 _ _ rfl _ (by go_simp; first | exact rfl | exact ⟨rfl, rfl⟩) rfl (by simp) ?_; clear hS; intro w' hS; simp only [List.set_cons_zero, List.set_cons_succ] at hS) | (refine sN_store hS rfl _ _ _ rfl _ _ rfl 3 _ _ rfl _ (by go_simp; first | exact rfl | exact ⟨rfl, rfl⟩) rfl (by simp) ?_; clear hS; intro w' hS; simp only [List.set_cons_zero, List.set_cons_succ] at hS) | (refine sN_store hS rfl _ _ _ rfl _ _ rfl 4 _ _ rfl _ (by go_simp; first | exact rfl | exact ⟨rfl, rfl⟩) rfl (by simp) ?_; clear hS; intro w' hS; simp only [List.set_cons_zero, List.set_cons_succ] at hS) | (refine sN_store hS rfl _ _ _ rfl _ _ rfl 5 _ _ rfl _ (by go_simp; first | exact rfl | exact ⟨rfl, rfl⟩) rfl (by simp) ?_; clear hS; intro w' hS; simp only [List.set_cons_zero, List.set_cons_succ] at hS) | (refine sN_storeB hS rfl _ _ _ rfl _ rfl 0 _ _ rfl _ (by go_simp; first | exact rfl | exact ⟨rfl, rfl⟩) (by rfl) (by rfl) (by simp [Value.oneCell']) ?_; clear hS; intro w' hS; simp only [List.set_cons_zero] at hS) | (refine sN_storeB hS rfl _ _ _ rfl _ rfl 1 _ _ rfl _ (by go_simp; first | exact rfl | exact ⟨rfl, rfl⟩) (by rfl) (by rfl) (by simp [Value.oneCell']) ?_; clear hS; intro w' hS; simp only [List.set_cons_zero, List.set_cons_succ] at hS) | (refine sN_storeB hS rfl _ _ _ rfl _ rfl 2 _ _ rfl _ (by go_simp; first | exact rfl | exact ⟨rfl, rfl⟩) (by rfl) (by rfl) (by simp [Value.oneCell']) ?_; clear hS; intro w' hS; simp only [List.set_cons_zero, List.set_cons_succ] at hS) | (refine sN_storeB hS rfl _ _ _ rfl _ rfl 3 _ _ rfl _ (by go_simp; first | exact rfl | exact ⟨rfl, rfl⟩) (by rfl) (by rfl) (by simp [Value.oneCell']) ?_; clear hS; intro w' hS; simp only [List.set_cons_zero, List.set_cons_succ] at hS) | (refine sN_storeB hS rfl _ _ _ rfl _ rfl 4 _ _ rfl _ (by go_simp; first | exact rfl | exact ⟨rfl, rfl⟩) (by rfl) (by rfl) (by simp [Value.oneCell']) ?_; clear hS; intro w' hS; simp only [List.set_cons_zero, List.set_cons_succ] at hS) | (refine sN_storeB hS rfl _ _ _ rfl _ rfl 5 _ _ rfl _ (by go_simp; first | exact rfl | exact ⟨rfl, rfl⟩) (by rfl) (by rfl) (by simp [Value.oneCell']) ?_; clear hS; intro w' hS; simp only [List.set_cons_zero, List.set_cons_succ] at hS)) | ((with_reducible refine gN_app ?_); (refine sN_append hS rfl _ _ _ rfl 1 _ _ _ rfl rfl _ _ _ _ rfl (by first | (simp; done) | (simp only [List.length_map]; omega)) (hS.srcBlk (i := 0) rfl) (by simp [Value.oneCell']) (by first | omega | (simp only [List.length_append, List.length_cons, List.length_nil]; omega)) ?_; clear hS; intro ad' c' w' hS hnil hown; simp only [List.set_cons_zero, List.set_cons_succ] at hS; replace hS := hS.drop)))
          exact ⟨_, _, hS, rfl, ⟨pre, x, rfl⟩, rfl, out ++ [x, sg], ad', c', Lib.hid (by rw [flatMap_snoc, partOut_big _ _ hbig, ← Hout.out]), by simp⟩
        · have hb1 := and128_not x hbig
          have hor := bits_or_u8 x sg
          gi_wp2_with (first | ((with_reducible refine gN_load ?_); first | (refine sN_load hS rfl _ _ rfl _ _ rfl 0 _ _ rfl _ rfl ?_) | (refine sN_load hS rfl _ _ rfl _ _ rfl 1 _ _ rfl _ rfl ?_) | (refine sN_load hS rfl _ _ rfl _ _ rfl 2 _ _ rfl _ rfl ?_) | (refine sN_load hS rfl _ _ rfl _ _ rfl 3 _ _ rfl _ rfl ?_) | (refine sN_load hS rfl _ _ rfl _ _ rfl 4 _ _ rfl _ rfl ?_) | (refine sN_load hS rfl _ _ rfl _ _ rfl 5 _ _ rfl _ rfl ?_) | (refine sN_loadA hS rfl _ _ rfl _ _ rfl 0 _ _ rfl _ rfl rfl ?_) | (refine sN_loadA hS rfl _ _ rfl _ _ rfl 1 _ _ rfl _ rfl rfl ?_) | (refine sN_loadA hS rfl _ _ rfl _ _ rfl 2 _ _ rfl _ rfl rfl ?_) | (refine sN_loadA hS rfl _ _ rfl _ _ rfl 3 _ _ rfl _ rfl rfl ?_) | (refine sN_loadA hS rfl _ _ rfl _ _ rfl 4 _ _ rfl _ rfl rfl ?_) | (refine sN_loadA hS rfl _ _ rfl _ _ rfl 5 _ _ rfl _ rfl rfl ?_)) | ((with_reducible refine gN_lit ?_); first | (refine sN_lit0 hS rfl _ rfl ?_; clear hS; intro b w' hb hS) | (refine sN_lit1 hS rfl _ _ rfl _ (by go_simp; first | exact rfl | exact ⟨rfl, rfl⟩) rfl ?_; clear hS; intro b w' hb hS) | (refine sN_lit2 hS rfl _ _ _ rfl _ _ (by go_simp; first | exact rfl | exact ⟨rfl, rfl⟩) (by go_simp; first | exact rfl | exact ⟨rfl, rfl⟩) rfl rfl ?_; clear hS; intro b w' hb hS) | (refine sN_lit12 hS rfl _ _ rfl _ _ (by go_simp; first | exact rfl | exact ⟨rfl, rfl⟩) ?_; clear hS; intro b w' hb hS)) | ((with_reducible refine gN_store ?_); first | (refine sN_store hS rfl _ _ _ rfl _ _ rfl 0 _ _ rfl _ (by go_simp; first | exact rfl | exact ⟨rfl, rfl⟩) rfl (by simp) ?_; clear hS; intro w' hS; simp only [List.set_cons_zero] at hS) | (refine sN_store hS rfl _ _ _ rfl _ _ rfl 1 _ _ rfl _ (by go_simp; first | exact rfl | exact ⟨rfl, rfl⟩) rfl (by simp) ?_; clear hS; intro w' hS; simp only [List.set_cons_zero, List.set_cons_succ] at hS) | (refine sN_store hS rfl _ _ _ rfl _ _ rfl 2 _ _ rfl _ (by go_simp; first | exact rfl | exact ⟨rfl, rfl⟩) rfl (by simp) ?_; clear hS; intro w' hS; simp only [List.set_cons_zero, List.set_cons_succ] at hS) | (refine sN_store hS rfl _ _ _ rfl _ _ rfl 3 _ _ rfl _ (by go_simp; first | exact rfl | exact ⟨rfl, rfl⟩) rfl (by simp) ?_; clear hS; intro w' hS; simp only [List.set_cons_zero, List.set_cons_succ] at hS) | (refine sN_store hS rfl _ _ _ rfl _ _ rfl 4 _ _ rfl _ (by go_simp; first | exact rfl | exact ⟨rfl, rfl⟩) rfl (by simp) ?_; clear hS; intro w' hS; simp only [List.set_cons_zero, List.set_cons_succ] at hS) | (refine sN_store hS rfl _ _ _ rfl _ _ rfl 5 _ _ rfl _ (by go_simp; first | exact rfl | exact ⟨rfl, rfl⟩) rfl (by simp) ?_; clear hS; intro w' hS; simp only [List.set_cons_zero, List.set_cons_succ] at hS) | (refine sN_storeB hS rfl _ _ _ rfl _ rfl 0 _ _ rfl _ (by go_simp; first | exact rfl | exact ⟨rfl, rfl⟩) (by rfl) (by rfl) (by simp [Value.oneCell']) ?_; clear hS; intro w' hS; simp only [List.set_cons_zero] at hS) | (refine sN_storeB hS rfl _ _ _ rfl _ rfl 1 _ _ rfl _ (by go_simp; first | exact rfl | exact ⟨rfl, rfl⟩) (by rfl) (by rfl) (by simp [Value.oneCell']) ?_; clear hS; intro w' hS; simp only [List.set_cons_zero, List.set_cons_succ] at hS) | (refine sN_storeB hS rfl _ _ _ rfl _ rfl 2 _ _ rfl _ (by go_simp; first | exact rfl | exact ⟨rfl, rfl⟩) (by rfl) (by rfl) (by simp [Value.oneCell']) ?_; clear hS; intro w' hS; simp only [List.set_cons_zero, List.set_cons_succ] at hS) | (refine sN_storeB hS rfl _ _ _ rfl _ rfl 3 _ _ rfl _ (by go_simp; first | exact rfl | exact ⟨rfl, rfl⟩) (by rfl) (by rfl) (by simp [Value.oneCell']) ?_; clear hS; intro w' hS; simp only [List.set_cons_zero, List.set_cons_succ] at hS) | (refine sN_storeB hS rfl _ _ _ rfl _ rfl 4 _ _ rfl _ (by go_simp; first | exact rfl | exact ⟨rfl, rfl⟩) (by rfl) (by rfl) (by simp [Value.oneCell']) ?_; clear hS; intro w' hS; simp only [List.set_cons_zero, List.set_cons_succ] at hS) | (refine sN_storeB hS rfl _ _ _ rfl _ rfl 5 _ _ rfl _ (by go_simp; first | exact rfl | exact ⟨rfl, rfl⟩) (by rfl) (by rfl) (by simp [Value.oneCell']) ?_; clear hS; intro w' hS; simp only [List.set_cons_zero, List.set_cons_succ] at hS)) | ((with_reducible refine gN_app ?_); (refine sN_append hS rfl _ _ _ rfl 1 _ _ _ rfl rfl _ _ _ _ rfl (by first | (simp; done) | (simp only [List.length_map]; omega)) (hS.srcBlk (i := 0) rfl) (by simp [Value.oneCell']) (by first | omega | (simp only [List.length_append, List.length_cons, List.length_nil]; omega)) ?_; clear hS; intro ad' c' w' hS hnil hown; simp only [List.set_cons_zero, List.set_cons_succ] at hS; replace hS := hS.drop)))
          exact ⟨_, _, hS, rfl, out ++ [x ||| sg], ad', c', Lib.hid (by rw [flatMap_snoc, partOut_small _ _ hbig, ← Hout.out]), by simp⟩
    case done =>
      rintro D J B' w1 hS ⟨rfl, out, ad, c, Hout, rfl⟩
      gi_wp2_with ((with_reducible refine gN_load ?_); first | (refine sN_load hS rfl _ _ rfl _ _ rfl 0 _ _ rfl _ rfl ?_) | (refine sN_load hS rfl _ _ rfl _ _ rfl 1 _ _ rfl _ rfl ?_) | (refine sN_load hS rfl _ _ rfl _ _ rfl 2 _ _ rfl _ rfl ?_) | (refine sN_load hS rfl _ _ rfl _ _ rfl 3 _ _ rfl _ rfl ?_) | (refine sN_load hS rfl _ _ rfl _ _ rfl 4 _ _ rfl _ rfl ?_) | (refine sN_load hS rfl _ _ rfl _ _ rfl 5 _ _ rfl _ rfl ?_) | (refine sN_loadA hS rfl _ _ rfl _ _ rfl 0 _ _ rfl _ rfl rfl ?_) | (refine sN_loadA hS rfl _ _ rfl _ _ rfl 1 _ _ rfl _ rfl rfl ?_) | (refine sN_loadA hS rfl _ _ rfl _ _ rfl 2 _ _ rfl _ rfl rfl ?_) | (refine sN_loadA hS rfl _ _ rfl _ _ rfl 3 _ _ rfl _ rfl rfl ?_) | (refine sN_loadA hS rfl _ _ rfl _ _ rfl 4 _ _ rfl _ rfl rfl ?_) | (refine sN_loadA hS rfl _ _ rfl _ _ rfl 5 _ _ rfl _ rfl rfl ?_))
      have hK : w1.heap[D]? = some (.deferred (some [])) := hS.get (i := 0) rfl
      refine ⟨by simp, .inl ⟨_, _, rfl, run_takeDeferred hK, ⟨_, results_tmp rfl _ _ _, _, rfl, ?_⟩⟩⟩
      rw [Hnum.out, ← Hout.out]
      exact ((hS.putObj (i := 0) rfl (.deferred none)).drop.dropAt 1 rfl).dropAt 1 rfl
    case stop =>
      rintro D c pre J B' w1 hS hpre ⟨rfl, ⟨p, b, rfl⟩, rfl, out, ad, c, Hout, rfl⟩
      have Hall : Hid (p ++ [(b, true)] = partsL n.natAbs) := Lib.hid (by
        obtain ⟨r, hr⟩ := hpre
        have h := partsL_last n.natAbs n.natAbs (Nat.le_refl _) p r b (by rw [← hr]; simp)
        rw [← hr, h, List.append_nil])
      clear hpre
      gi_wp2_with ((with_reducible refine gN_load ?_); first | (refine sN_load hS rfl _ _ rfl _ _ rfl 0 _ _ rfl _ rfl ?_) | (refine sN_load hS rfl _ _ rfl _ _ rfl 1 _ _ rfl _ rfl ?_) | (refine sN_load hS rfl _ _ rfl _ _ rfl 2 _ _ rfl _ rfl ?_) | (refine sN_load hS rfl _ _ rfl _ _ rfl 3 _ _ rfl _ rfl ?_) | (refine sN_load hS rfl _ _ rfl _ _ rfl 4 _ _ rfl _ rfl ?_) | (refine sN_load hS rfl _ _ rfl _ _ rfl 5 _ _ rfl _ rfl ?_) | (refine sN_loadA hS rfl _ _ rfl _ _ rfl 0 _ _ rfl _ rfl rfl ?_) | (refine sN_loadA hS rfl _ _ rfl _ _ rfl 1 _ _ rfl _ rfl rfl ?_) | (refine sN_loadA hS rfl _ _ rfl _ _ rfl 2 _ _ rfl _ rfl rfl ?_) | (refine sN_loadA hS rfl _ _ rfl _ _ rfl 3 _ _ rfl _ rfl rfl ?_) | (refine sN_loadA hS rfl _ _ rfl _ _ rfl 4 _ _ rfl _ rfl rfl ?_) | (refine sN_loadA hS rfl _ _ rfl _ _ rfl 5 _ _ rfl _ rfl rfl ?_))
      have hK : w1.heap[D]? = some (.deferred (some [])) := hS.get (i := 0) rfl
      refine ⟨by simp, .inl ⟨_, _, rfl, run_takeDeferred hK, ⟨_, results_tmp rfl _ _ _, _, rfl, ?_⟩⟩⟩
      rw [Hnum.out, ← Hall.out, ← Hout.out]
      exact ((hS.putObj (i := 0) rfl (.deferred none)).drop.dropAt 1 rfl).dropAt 1 rfl
end Go.Proofs.YtmlgieclkedomaaGreat

namespace Go.Proofs.YtmlgieclkedomaaGreat
open Go Go.RowKit

/-- a walk stands still here -/
def Stop (p : Prop) : Prop := p
theorem Stop.of {p : Prop} (h : Stop p) : p := h
theorem Stop.to {p : Prop} (h : p) : Stop p := h

theorem Nx.rowCell {L0 : List Item} {I0 I : Imm} {w0 w : World} {L : List Item} (h : Nx L0 I0 w0 I L w) {i sz m c g : Nat} {e : TypeId} {xs : List Value} (hi : L[i]? = some (.row sz e (.slice (some ⟨g, 0, none⟩) m c) m xs)) (j : Nat) (v : Value) (hv : xs[j]? = some v) :
    w.cell? ⟨g, j, none⟩ = some v := by
  rcases h.srcRow hi with ⟨_, rfl⟩ | ⟨b, k, e, hk⟩
  · simp at hv
  · cases e
    simpa using hk j v hv

theorem Nx.setItem {L0 : List Item} {I0 I : Imm} {w0 w : World} {L : List Item} (h : Nx L0 I0 w0 I L w) {i : Nat} {it it' : Item} (hi : L[i]? = some it) (hh : it'.holds w) (hb : ∀ b, it'.block = some b → it.block = some b) :
    Nx L0 I0 w0 I (L.set i it') w :=
  h.upd hi (fun _ _ _ => rfl) rfl rfl rfl (Nat.le_refl _) hh (fun b hb' => .inl (hb b hb'))

/-- a row with an address is a block whose first cells are the row's -/
theorem Nx.openRow {L0 : List Item} {I0 I : Imm} {w0 w : World} {L : List Item} (h : Nx L0 I0 w0 I L w) {i sz m c g : Nat} {e : TypeId} {xs : List Value} (hi : L[i]? = some (.row sz e (.slice (some ⟨g, 0, none⟩) m c) m xs)) :
    ∃ rest, xs.length = m * sz ∧ m ≤ c ∧ c ≤ maxLen ∧ c * sz ≤ (xs ++ rest).length ∧ Nx L0 I0 w0 I (L.set i (.blk g (xs ++ rest) e)) w := by
  have hr : OwnsRow w e sz (.slice (some ⟨g, 0, none⟩) m c) m xs := h.get hi
  rcases hr.2 with ⟨e, rfl⟩ | ⟨g', cap, cur, e', hg, hc, hc2, hc3, htake⟩
  · cases e
  · cases e'
    have e1 : xs ++ cur.toList.drop (m * sz) = cur.toList := by rw [← htake]; exact List.take_append_drop _ _
    refine ⟨cur.toList.drop (m * sz), hr.1, hc, hc2, ?_, h.setItem hi ?_ (fun b hb => hb)⟩
    · rw [e1]; simpa using hc3
    · rw [e1]
      show w.heap[g]? = some (.cells cur.toList.toArray _ (0, 0))
      rw [Array.toArray_toList]; exact hg
theorem Nx.closeRow {L0 : List Item} {I0 I : Imm} {w0 w : World} {L : List Item} (h : Nx L0 I0 w0 I L w) {i g : Nat} {e : TypeId} {cs : List Value} (hi : L[i]? = some (.blk g cs e)) (sz m c : Nat) (xs rest : List Value) (he : cs = xs ++ rest)
    (h1 : xs.length = m * sz) (h2 : m ≤ c) (h3 : c ≤ maxLen) (h4 : c * sz ≤ cs.length) :
    Nx L0 I0 w0 I (L.set i (.row sz e (.slice (some ⟨g, 0, none⟩) m c) m xs)) w := by
  have hb : w.heap[g]? = some (.cells cs.toArray e (0, 0)) := h.get hi
  refine h.setItem hi ?_ (fun b hb => hb)
  refine ⟨h1, .inr ⟨g, c, cs.toArray, rfl, hb, h2, h3, by simpa using h4, ?_⟩⟩
  subst he
  simp [← h1]

theorem Nx.row_ad {L0 : List Item} {I0 I : Imm} {w0 w : World} {L : List Item} (h : Nx L0 I0 w0 I L w) {i sz m c : Nat} {e : TypeId} {ad : Option Addr} {xs : List Value} (hi : L[i]? = some (.row sz e (.slice ad m c) m xs)) (hm : m ≠ 0) :
    ∃ g, ad = some ⟨g, 0, none⟩ ∧ m ≤ c := by
  obtain ⟨ad', c', e, h1, h2, h3, h4⟩ := h.rowVal hi
  cases e
  cases ad with
  | none => exact absurd (h3 rfl).1 hm
  | some a => obtain ⟨g, rfl⟩ := h4 a rfl; exact ⟨g, rfl, h1⟩

theorem Nx.freezeBlk {L0 : List Item} {I0 I : Imm} {w0 w : World} {L : List Item} {b : Nat} {cs : List Value} {e : TypeId} (h : Nx L0 I0 w0 I (.blk b cs e :: L) w) (hb : w0.heap.size ≤ b) :
    ∃ J, Nx L0 I0 w0 J L w ∧ I.Le J ∧ J.At b 0 cs := by
  obtain ⟨h1, h2⟩ := h.freeze rfl hb (h.get (i := 0) rfl)
  exact ⟨_, h1, h2, cs.toArray, e, (0, 0), by simp [Imm.add], fun i u hu => by simpa using hu⟩
theorem Nx.freezeB {L0 : List Item} {I0 I : Imm} {w0 w : World} {L : List Item} {b : Nat} {l : List UInt8} {e : TypeId} (h : Nx L0 I0 w0 I (.blk b (bvs l) e :: L) w) (hb : w0.heap.size ≤ b) (n : Nat) (hn : l.length = n) (hm : n ≤ 1000000) :
    ∃ J, Nx L0 I0 w0 J L w ∧ I.Le J ∧ RdB J (.slice (some ⟨b, 0, none⟩) n n) l := by
  obtain ⟨J, h1, h2, h3⟩ := h.freezeBlk hb
  subst hn
  exact ⟨J, h1, h2, ⟨_, _, rfl, Nat.le_refl _, by unfold maxLen; omega, .inr ⟨b, 0, rfl, h3⟩⟩⟩

theorem Imm.At.take {I : Imm} {b j : Nat} {vs : List Value} (h : I.At b j vs) (m : Nat) : I.At b j (vs.take m) := by
  obtain ⟨cur, e, fr, hb, hc⟩ := h
  exact ⟨cur, e, fr, hb, fun i u hu => hc i u (by rw [List.getElem?_take] at hu; split at hu; exact hu; cases hu)⟩
theorem Imm.At.drop {I : Imm} {b j : Nat} {vs : List Value} (h : I.At b j vs) (m : Nat) : I.At b (j + m) (vs.drop m) := by
  obtain ⟨cur, e, fr, hb, hc⟩ := h
  exact ⟨cur, e, fr, hb, fun i u hu => by rw [Nat.add_assoc]; exact hc (m + i) u (by simpa using hu)⟩
theorem Nx.freezeRow0 {I0 I : Imm} {w0 w : World} {L : List Item} {sz m : Nat} {e : TypeId} {v : Value} {xs : List Value} (h : Nx [] I0 w0 I (.row sz e v m xs :: L) w) : ∃ J, Nx [] I0 w0 J L w ∧ I.Le J ∧ Rd J v m xs :=
  h.freezeRow (fun g hg => (h.own g (mem_blocks.2 ⟨_, List.mem_cons_self, hg⟩)).resolve_left (by simp [blocks]))
theorem Rd.asB {I : Imm} {ad : Option Addr} {c m : Nat} {xs : List Value} (h : Rd I (.slice ad m c) m xs) (l : List UInt8) (hx : xs = bvs l) (m' : Nat) (hm : m' = m) (hl : l.length = m) : RdB I (.slice ad m' c) l := by
  subst hx hm; rw [RdB, hl]; exact h

section
variable {P : Program} {ops : Array Oper} {Q : Exit → Act → World → Prop} {a : Act} {w : World} {rest : List Oper} {o : Oper}
theorem sL_loadC (hg : Region.wanted o (yielded ops a.tmps) = true) (T : TypeId) (x : Operand) (ho : o.op = .load T x) (b j : Nat) (hx : a.eval x = .pointer (some ⟨b, j, none⟩))
    (v : Value) (hc : w.cell? ⟨b, j, none⟩ = some v) [hs : Scal P T] (k : wpList P ops Q rest (a.put o.dst v) w) : wpList P ops Q (o :: rest) a w :=
  wpL_of hg (ex_load T x ho hs.pf b j hx v hc) (fun _ _ => Oper.semAt_eq _ _ _ (by simp [ho])) (fun _ => by simp [Oper.about, ho]) k
end
section
variable {F : Fence} {n : Nat} {P : Program} {ops : Array Oper} {Q : Exit → Act → World → Prop} {a : Act} {w : World} {rest : List Oper} {o : Oper}
theorem sN_loadC (hg : Region.wanted o (yielded ops a.tmps) = true) (T : TypeId) (x : Operand) (ho : o.op = .load T x) (b j : Nat) (hx : a.eval x = .pointer (some ⟨b, j, none⟩))
    (v : Value) (hc : w.cell? ⟨b, j, none⟩ = some v) [hs : Scal P T] (k : wpListIn F n P ops Q rest (a.put o.dst v) w) : wpListIn F n P ops Q (o :: rest) a w :=
  wpN_of hg (ex_load T x ho hs.pf b j hx v hc) (fun _ _ => Oper.semAt_eq _ _ _ (by simp [ho])) (fun _ => by simp [Oper.about, ho]) k
end
end Go.Proofs.YtmlgieclkedomaaGreat

namespace Go.Proofs.YtmlgieclkedomaaGreat
open Go Go.RowKit

/-- slices.Clone of bytes: nil stays nil, and nothing else becomes nil -/
theorem Clone_spec {I : Imm} {w : World} (hI : I.Holds w) {v : Value} {l : List UInt8} (h : RdB I v l) (hlen : l.length ≤ 1000000000) :
    Calls Tryz.prog 49 #[v] w fun e w' => ∃ ad c, e = .returned (.slice ad l.length c) ∧ Nx [] I w I [.row 1 5 (.slice ad l.length c) l.length (bvs l)] w' := by
  obtain ⟨ad, cap, rfl, h1, h2, h3⟩ := h.ex
  have hS := Nx.nil hI
  cases ad with
  | none =>
    obtain ⟨-, h4, h5, -⟩ := h3.resolve_right (by rintro ⟨b, j, e, _⟩; cases e)
    obtain rfl : l = [] := List.eq_nil_of_length_eq_zero h4
    subst h5
    have hS := hS.nilRow 1 5
    go_enter Tryz.func49, Tryz.ntmps49
    go_wp2_with ((with_reducible refine gL_bin ?_); first | (refine sL_eqnil rfl _ _ _ _ rfl _ _ _ _ _ rfl rfl ?_) | (refine sL_neqnil rfl _ _ _ _ rfl _ _ _ _ _ rfl rfl ?_))
    go_ret
    exact ⟨_, _, rfl, hS⟩
  | some a =>
    have H3 := h.src hI
    go_enter Tryz.func49, Tryz.ntmps49
    go_wp2_with (first | ((with_reducible refine gL_bin ?_); first | (refine sL_eqnil rfl _ _ _ _ rfl _ _ _ _ _ rfl rfl ?_) | (refine sL_neqnil rfl _ _ _ _ rfl _ _ _ _ _ rfl rfl ?_)) | (((with_reducible refine gL_lit ?_); first | (refine sL_lit0 hS rfl _ rfl ?_; clear hS; intro b w' hb hS) | (refine sL_lit1 hS rfl _ _ rfl _ (by go_simp; first | exact rfl | exact ⟨rfl, rfl⟩) rfl ?_; clear hS; intro b w' hb hS) | (refine sL_lit2 hS rfl _ _ _ rfl _ _ (by go_simp; first | exact rfl | exact ⟨rfl, rfl⟩) (by go_simp; first | exact rfl | exact ⟨rfl, rfl⟩) rfl rfl ?_; clear hS; intro b w' hb hS) | (refine sL_lit12 hS rfl _ _ rfl _ _ (by go_simp; first | exact rfl | exact ⟨rfl, rfl⟩) ?_; clear hS; intro b w' hb hS)); replace hS := hS.litRow 1 0 rfl (by decide)) | ((with_reducible refine gL_app ?_); (refine sL_append hS rfl _ _ _ rfl 0 _ _ _ rfl rfl _ _ _ _ rfl (by first | (simp; done) | (simp only [List.length_map]; omega)) ((h).src hS.hI) (bvs_one _) (by first | omega | (simp only [List.length_append, List.length_cons, List.length_nil]; omega)) ?_; clear hS; intro ad' c' w' hS hnil hown; simp only [List.set_cons_zero] at hS)))
    go_ret
    exact ⟨_, _, rfl, by simpa using hS⟩

theorem may_spec {w : World} {c : UInt8} {A : Option Addr} {l k : Nat} (hl : l ≤ 1000000000) (d : List UInt8) (hd : d.length = l) {I : Imm} (hI : I.Holds w) :
    Calls Tryz.prog 53 #[.agg #[bv c, .slice A l k]] w fun e w' => e = .returned (.bool (opMay ⟨c, d⟩)) ∧ Nx [] I w I [] w' := by
  have hS := Nx.nil hI
  obtain ⟨n, hn⟩ : ∃ n : Int, n = c.toNat := ⟨_, rfl⟩
  have hlt := c.toNat_lt
  have h0 : 0 ≤ n := by omega
  have h1 : n ≤ 255 := by omega
  have Hn := Lib.hid hn
  have e1 : (n = 76) ↔ c = 76 := by rw [hn, ← UInt8.toNat_inj]; simp; omega
  have e2 : (n = 77) ↔ c = 77 := by rw [hn, ← UInt8.toNat_inj]; simp; omega
  have e3 : (n ≤ 75) ↔ c ≤ 75 := by rw [hn, UInt8.le_iff_toNat_le]; simp; omega
  have Hm : Hid (opMay ⟨c, d⟩ = if n = 76 then decide ((l : Int) ≤ 255) else if n = 77 then decide ((l : Int) ≤ 65535) else if n ≤ 75 then ((l : Int) == n) else ((l : Int) == 0)) := Lib.hid (by
    unfold opMay
    simp only [hd, e1, e2, e3]
    split
    · simp; omega
    · split
      · simp; omega
      · split
        · rw [Bool.eq_iff_iff]; simp; omega
        · rw [Bool.eq_iff_iff]; simp)
  have hcv : bv c = .int .u8 n := by rw [hn]
  rw [hcv]
  clear hn e1 e2 e3 hcv
  go_enter Tryz.func53, Tryz.ntmps53
  go_wp2_with (first | ((with_reducible refine gL_load ?_); first | (refine sL_load hS rfl _ _ rfl _ _ rfl 0 _ _ rfl _ rfl ?_) | (refine sL_load hS rfl _ _ rfl _ _ rfl 1 _ _ rfl _ rfl ?_) | (refine sL_load hS rfl _ _ rfl _ _ rfl 2 _ _ rfl _ rfl ?_) | (refine sL_load hS rfl _ _ rfl _ _ rfl 3 _ _ rfl _ rfl ?_) | (refine sL_load hS rfl _ _ rfl _ _ rfl 4 _ _ rfl _ rfl ?_) | (refine sL_load hS rfl _ _ rfl _ _ rfl 5 _ _ rfl _ rfl ?_) | (refine sL_loadA hS rfl _ _ rfl _ _ rfl 0 _ _ rfl _ rfl rfl ?_) | (refine sL_loadA hS rfl _ _ rfl _ _ rfl 1 _ _ rfl _ rfl rfl ?_) | (refine sL_loadA hS rfl _ _ rfl _ _ rfl 2 _ _ rfl _ rfl rfl ?_) | (refine sL_loadA hS rfl _ _ rfl _ _ rfl 3 _ _ rfl _ rfl rfl ?_) | (refine sL_loadA hS rfl _ _ rfl _ _ rfl 4 _ _ rfl _ rfl rfl ?_) | (refine sL_loadA hS rfl _ _ rfl _ _ rfl 5 _ _ rfl _ rfl rfl ?_)) | ((with_reducible refine gL_store ?_); first | (refine sL_store hS rfl _ _ _ rfl _ _ rfl 0 _ _ rfl _ (by go_simp; first | exact rfl | exact ⟨rfl, rfl⟩) rfl (by simp) ?_; clear hS; intro w' hS; simp only [List.set_cons_zero] at hS) | (refine sL_store hS rfl _ _ _ rfl _ _ rfl 1 _ _ rfl _ (by go_simp; first | exact rfl | exact ⟨rfl, rfl⟩) rfl (by simp) ?_; clear hS; intro w' hS; simp only [List.set_cons_zero, List.set_cons_succ] at hS) | (refine sL_store hS rfl _ _ _ rfl _ _ rfl 2 _ _ rfl _ (by go_simp; first | exact rfl | exact ⟨rfl, rfl⟩) rfl (by simp) ?_; clear hS; intro w' hS; simp only [List.set_cons_zero, List.set_cons_succ] at hS) | (refine sL_store hS rfl _ _ _ rfl _ _ rfl 3 _ _ rfl _ (by go_simp; first | exact rfl | exact ⟨rfl, rfl⟩) rfl (by simp) ?_; clear hS; intro w' hS; simp only [List.set_cons_zero, List.set_cons_succ] at hS) | (refine sL_store hS rfl _ _ _ rfl _ _ rfl 4 _ _ rfl _ (by go_simp; first | exact rfl | exact ⟨rfl, rfl⟩) rfl (by simp) ?_; clear hS; intro w' hS; simp only [List.set_cons_zero, List.set_cons_succ] at hS) | (refine sL_store hS rfl _ _ _ rfl _ _ rfl 5 _ _ rfl _ (by go_simp; first | exact rfl | exact ⟨rfl, rfl⟩) rfl (by simp) ?_; clear hS; intro w' hS; simp only [List.set_cons_zero, List.set_cons_succ] at hS) | (refine sL_storeB hS rfl _ _ _ rfl _ rfl 0 _ _ rfl _ (by go_simp; first | exact rfl | exact ⟨rfl, rfl⟩) (by rfl) (by rfl) (by simp [Value.oneCell']) ?_; clear hS; intro w' hS; simp only [List.set_cons_zero] at hS) | (refine sL_storeB hS rfl _ _ _ rfl _ rfl 1 _ _ rfl _ (by go_simp; first | exact rfl | exact ⟨rfl, rfl⟩) (by rfl) (by rfl) (by simp [Value.oneCell']) ?_; clear hS; intro w' hS; simp only [List.set_cons_zero, List.set_cons_succ] at hS) | (refine sL_storeB hS rfl _ _ _ rfl _ rfl 2 _ _ rfl _ (by go_simp; first | exact rfl | exact ⟨rfl, rfl⟩) (by rfl) (by rfl) (by simp [Value.oneCell']) ?_; clear hS; intro w' hS; simp only [List.set_cons_zero, List.set_cons_succ] at hS) | (refine sL_storeB hS rfl _ _ _ rfl _ rfl 3 _ _ rfl _ (by go_simp; first | exact rfl | exact ⟨rfl, rfl⟩) (by rfl) (by rfl) (by simp [Value.oneCell']) ?_; clear hS; intro w' hS; simp only [List.set_cons_zero, List.set_cons_succ] at hS) | (refine sL_storeB hS rfl _ _ _ rfl _ rfl 4 _ _ rfl _ (by go_simp; first | exact rfl | exact ⟨rfl, rfl⟩) (by rfl) (by rfl) (by simp [Value.oneCell']) ?_; clear hS; intro w' hS; simp only [List.set_cons_zero, List.set_cons_succ] at hS) | (refine sL_storeB hS rfl _ _ _ rfl _ rfl 5 _ _ rfl _ (by go_simp; first | exact rfl | exact ⟨rfl, rfl⟩) (by rfl) (by rfl) (by simp [Value.oneCell']) ?_; clear hS; intro w' hS; simp only [List.set_cons_zero, List.set_cons_succ] at hS)) | ((with_reducible refine gL_alloc ?_); (refine sL_alloc hS rfl _ rfl ?_; clear hS; intro b w' hb hS)) | ((with_reducible refine gL_box ?_); (refine sL_box hS rfl _ _ rfl _ (by go_simp; first | exact rfl | exact ⟨rfl, rfl⟩) ?_; clear hS; intro b w' hb hS)))
  all_goals go_ret
  all_goals refine ⟨ret_bool ?_, hS.drop⟩
  all_goals rw [Hm.out]
  all_goals clear Hm Hn hS
  all_goals (simp_all; try (intro _; exfalso; omega))

theorem head_spec {w : World} {c : UInt8} {I : Imm} (hI : I.Holds w) :
    Calls Tryz.prog 54 #[bv c] w fun e w' => e = .returned (.int .i64 (opHead c)) ∧ w = w' := by
  obtain ⟨n, hn⟩ : ∃ n : Int, n = c.toNat := ⟨_, rfl⟩
  have e1 : (n = 76) ↔ c = 76 := by rw [hn, ← UInt8.toNat_inj]; simp; omega
  have e2 : (n = 77) ↔ c = 77 := by rw [hn, ← UInt8.toNat_inj]; simp; omega
  have Hm : Hid ((opHead c : Int) = if n = 77 then 2 else if n = 76 then 1 else 0) := Lib.hid (by
    unfold opHead
    simp only [e1, e2]
    split <;> (try split) <;> rfl)
  have hcv : bv c = .int .u8 n := by rw [hn]
  rw [hcv]
  clear hn e1 e2 hcv
  go_enter Tryz.func54, Tryz.ntmps54
  go_wp2
  all_goals go_ret
  all_goals refine ⟨ret_int' ?_, rfl⟩
  all_goals rw [Hm.out]
  all_goals clear Hm
  all_goals simp_all

/-- an operation's cells, in memory that is never written again -/
def OpAt (I : Imm) (o : OpS) (vs : List Value) : Prop := ∃ ad c, vs = [bv o.code, .slice ad o.data.length c] ∧ RdB I (.slice ad o.data.length c) o.data

theorem Push_spec {I : Imm} {w : World} (hI : I.Holds w) {v : Value} {l : List UInt8} (h : RdB I v l) (hlen : l.length ≤ 65535) :
    Calls Tryz.prog 46 #[v] w fun e w' => ∃ J vs, e = .returned (.tuple #[.agg vs.toArray, .int .i64 0]) ∧ Nx [] I w J [] w' ∧ OpAt J (pushOp l) vs := by
  obtain ⟨ad, cap, rfl, h1, h2, -⟩ := h.ex
  have hS := Nx.nil hI
  obtain ⟨c, hc⟩ : ∃ c, c = pushCode l := ⟨_, rfl⟩
  have Hc := Lib.hid hc
  have Hcv : Hid (((c.toNat : Nat) : Int) = if (l.length : Int) ≤ 75 then (l.length : Int) else if (l.length : Int) ≤ 255 then 76 else 77) := Lib.hid (by
    rw [hc]; unfold pushCode
    by_cases h1 : l.length ≤ 75
    · simp only [if_pos h1, if_pos (show (l.length : Int) ≤ 75 by omega), UInt8.toNat_ofNat']; omega
    · by_cases h2 : l.length ≤ 255
      · simp only [if_neg h1, if_pos h2, if_neg (show ¬ (l.length : Int) ≤ 75 by omega), if_pos (show (l.length : Int) ≤ 255 by omega)]; rfl
      · simp only [if_neg h1, if_neg h2, if_neg (show ¬ (l.length : Int) ≤ 75 by omega), if_neg (show ¬ (l.length : Int) ≤ 255 by omega)]; rfl)
  clear hc
  go_enter Tryz.func46, Tryz.ntmps46
  go_wp2_with (first | (first | ((with_reducible refine gL_load ?_); first | (refine sL_load hS rfl _ _ rfl _ _ rfl 0 _ _ rfl _ rfl ?_) | (refine sL_load hS rfl _ _ rfl _ _ rfl 1 _ _ rfl _ rfl ?_) | (refine sL_load hS rfl _ _ rfl _ _ rfl 2 _ _ rfl _ rfl ?_) | (refine sL_load hS rfl _ _ rfl _ _ rfl 3 _ _ rfl _ rfl ?_) | (refine sL_load hS rfl _ _ rfl _ _ rfl 4 _ _ rfl _ rfl ?_) | (refine sL_load hS rfl _ _ rfl _ _ rfl 5 _ _ rfl _ rfl ?_) | (refine sL_loadA hS rfl _ _ rfl _ _ rfl 0 _ _ rfl _ rfl rfl ?_) | (refine sL_loadA hS rfl _ _ rfl _ _ rfl 1 _ _ rfl _ rfl rfl ?_) | (refine sL_loadA hS rfl _ _ rfl _ _ rfl 2 _ _ rfl _ rfl rfl ?_) | (refine sL_loadA hS rfl _ _ rfl _ _ rfl 3 _ _ rfl _ rfl rfl ?_) | (refine sL_loadA hS rfl _ _ rfl _ _ rfl 4 _ _ rfl _ rfl rfl ?_) | (refine sL_loadA hS rfl _ _ rfl _ _ rfl 5 _ _ rfl _ rfl rfl ?_)) | ((with_reducible refine gL_store ?_); first | (refine sL_store hS rfl _ _ _ rfl _ _ rfl 0 _ _ rfl _ (by go_simp; first | exact rfl | exact ⟨rfl, rfl⟩) rfl (by simp) ?_; clear hS; intro w' hS; simp only [List.set_cons_zero] at hS) | (refine sL_store hS rfl _ _ _ rfl _ _ rfl 1 _ _ rfl _ (by go_simp; first | exact rfl | exact ⟨rfl, rfl⟩) rfl (by simp) ?_; clear hS; intro w' hS; simp only [List.set_cons_zero, List.set_cons_succ] at hS) | (refine sL_store hS rfl _ _ _ rfl _ _ rfl 2 _ _ rfl _ (by go_simp; first | exact rfl | exact ⟨rfl, rfl⟩) rfl (by simp) ?_; clear hS; intro w' hS; simp only [List.set_cons_zero, List.set_cons_succ] at hS) | (refine sL_store hS rfl _ _ _ rfl _ _ rfl 3 _ _ rfl _ (by go_simp; first | exact rfl | exact ⟨rfl, rfl⟩) rfl (by simp) ?_; clear hS; intro w' hS; simp only [List.set_cons_zero, List.set_cons_succ] at hS) | (refine sL_store hS rfl _ _ _ rfl _ _ rfl 4 _ _ rfl _ (by go_simp; first | exact rfl | exact ⟨rfl, rfl⟩) rfl (by simp) ?_; clear hS; intro w' hS; simp only [List.set_cons_zero, List.set_cons_succ] at hS) | (refine sL_store hS rfl _ _ _ rfl _ _ rfl 5 _ _ rfl _ (by go_simp; first | exact rfl | exact ⟨rfl, rfl⟩) rfl (by simp) ?_; clear hS; intro w' hS; simp only [List.set_cons_zero, List.set_cons_succ] at hS) | (refine sL_storeB hS rfl _ _ _ rfl _ rfl 0 _ _ rfl _ (by go_simp; first | exact rfl | exact ⟨rfl, rfl⟩) (by rfl) (by rfl) (by simp [Value.oneCell']) ?_; clear hS; intro w' hS; simp only [List.set_cons_zero] at hS) | (refine sL_storeB hS rfl _ _ _ rfl _ rfl 1 _ _ rfl _ (by go_simp; first | exact rfl | exact ⟨rfl, rfl⟩) (by rfl) (by rfl) (by simp [Value.oneCell']) ?_; clear hS; intro w' hS; simp only [List.set_cons_zero, List.set_cons_succ] at hS) | (refine sL_storeB hS rfl _ _ _ rfl _ rfl 2 _ _ rfl _ (by go_simp; first | exact rfl | exact ⟨rfl, rfl⟩) (by rfl) (by rfl) (by simp [Value.oneCell']) ?_; clear hS; intro w' hS; simp only [List.set_cons_zero, List.set_cons_succ] at hS) | (refine sL_storeB hS rfl _ _ _ rfl _ rfl 3 _ _ rfl _ (by go_simp; first | exact rfl | exact ⟨rfl, rfl⟩) (by rfl) (by rfl) (by simp [Value.oneCell']) ?_; clear hS; intro w' hS; simp only [List.set_cons_zero, List.set_cons_succ] at hS) | (refine sL_storeB hS rfl _ _ _ rfl _ rfl 4 _ _ rfl _ (by go_simp; first | exact rfl | exact ⟨rfl, rfl⟩) (by rfl) (by rfl) (by simp [Value.oneCell']) ?_; clear hS; intro w' hS; simp only [List.set_cons_zero, List.set_cons_succ] at hS) | (refine sL_storeB hS rfl _ _ _ rfl _ rfl 5 _ _ rfl _ (by go_simp; first | exact rfl | exact ⟨rfl, rfl⟩) (by rfl) (by rfl) (by simp [Value.oneCell']) ?_; clear hS; intro w' hS; simp only [List.set_cons_zero, List.set_cons_succ] at hS)) | ((with_reducible refine gL_alloc ?_); (refine sL_alloc hS rfl _ rfl ?_; clear hS; intro b w' hb hS)) | ((with_reducible refine gL_box ?_); (refine sL_box hS rfl _ _ rfl _ (by go_simp; first | exact rfl | exact ⟨rfl, rfl⟩) ?_; clear hS; intro b w' hb hS))) | (go_at_call 49; refine (Clone_spec hS.hI h (by omega)).mono ?_; rintro e w' ⟨ad', c', rfl, hn⟩; obtain ⟨J, hS', hle, hrd⟩ := hS.pureFreeze hn; clear hS hn; have hS := hS'; clear hS'))
  all_goals refine bodyPost_ret (res_ct rfl hS rfl 0 rfl rfl rfl) rfl ⟨J, _, rfl, hS.drop, ad', c', ?_, hrd⟩
  all_goals
    show [_, _] = [bv (pushCode l), Value.slice ad' l.length c']
    rw [← Hc.out, show bv c = .int .u8 (c.toNat : Int) from rfl, Hcv.out]
    first | rw [if_pos (by omega)] | rw [if_neg (by omega), if_pos (by omega)] | rw [if_neg (by omega), if_neg (by omega)]

/-- a list of operations, in memory that is never written again -/
def OpsAt (I : Imm) : List OpS → List Value → Prop
  | [], xs => xs = []
  | o :: l, xs => ∃ vs r, xs = vs ++ r ∧ OpAt I o vs ∧ OpsAt I l r
theorem OpAt.mono {I J : Imm} (h : I.Le J) {o : OpS} {vs : List Value} (k : OpAt I o vs) : OpAt J o vs := by
  obtain ⟨ad, c, e, hr⟩ := k
  exact ⟨ad, c, e, hr.mono h⟩
theorem OpAt.two {I : Imm} {o : OpS} {vs : List Value} (k : OpAt I o vs) : vs.length = 2 := by
  obtain ⟨ad, c, e, hr⟩ := k
  rw [e]; rfl
theorem OpsAt.mono {I J : Imm} (h : I.Le J) : ∀ {l : List OpS} {xs : List Value}, OpsAt I l xs → OpsAt J l xs
  | [], _, k => k
  | _ :: _, _, ⟨vs, r, e, h1, h2⟩ => ⟨vs, r, e, h1.mono h, OpsAt.mono h h2⟩
theorem OpsAt.len {I : Imm} : ∀ {l : List OpS} {xs : List Value}, OpsAt I l xs → xs.length = 2 * l.length
  | [], _, k => by rw [show _ = [] from k]; rfl
  | _ :: _, _, ⟨vs, r, e, h1, h2⟩ => by rw [e, List.length_append, h1.two, OpsAt.len h2, List.length_cons]; omega
theorem OpsAt.at {I : Imm} : ∀ {l : List OpS} {xs : List Value} (_ : OpsAt I l xs) (k : Nat) (hk : k < l.length), ∃ ad c, RdB I (.slice ad l[k].data.length c) l[k].data ∧ xs[k * 2]? = some (bv l[k].code) ∧ xs[k * 2 + 1]? = some (.slice ad l[k].data.length c)
  | [], _, _, k, hk => by simp at hk
  | o :: l, _, ⟨vs, r, e, ⟨ad, c, e1, h1⟩, h2⟩, 0, hk => ⟨ad, c, h1, by rw [e, e1]; rfl, by rw [e, e1]; rfl⟩
  | o :: l, _, ⟨vs, r, e, ⟨ad, c, e1, h1⟩, h2⟩, k + 1, hk => by
    obtain ⟨ad', c', g1, g2, g3⟩ := OpsAt.at h2 k (by simpa using hk)
    refine ⟨ad', c', g1, ?_, ?_⟩
    · rw [e, e1, Nat.add_mul]; simpa using g2
    · rw [e, e1, Nat.add_mul]; simpa using g3
/-- a slice of operations -/
def OpsRd (I : Imm) (v : Value) (l : List OpS) : Prop := ∃ xs, Rd I v l.length xs ∧ OpsAt I l xs
theorem OpsRd.at {I : Imm} {ad : Option Addr} {cap : Nat} {n : Nat} {l : List OpS} (h : OpsRd I (.slice ad n cap) l) (k : Nat) (hk : k < l.length) :
    ∃ b j ad' c', ad = some ⟨b, j, none⟩ ∧ RdB I (.slice ad' l[k].data.length c') l[k].data ∧ I.At b (j + k * 2) [bv l[k].code, .slice ad' l[k].data.length c'] := by
  obtain ⟨xs, hr, ho⟩ := h
  obtain ⟨ad0, cap0, e, h1, h2, h3⟩ := hr.ex
  simp only [Value.slice.injEq] at e
  obtain ⟨rfl, rfl, rfl⟩ := e
  rcases h3 with ⟨_, h4, _⟩ | ⟨b, j, rfl, cur, t, fr, hb, hc⟩
  · omega
  · obtain ⟨ad', c', g1, g2, g3⟩ := ho.at k hk
    refine ⟨b, j, ad', c', rfl, g1, cur, t, fr, hb, fun i u hu => ?_⟩
    match i, hu with
    | 0, hu => simp at hu; subst hu; have := hc _ _ g2; simpa using this
    | 1, hu => simp at hu; subst hu; have := hc _ _ g3; simpa [Nat.add_assoc] using this
    | i + 2, hu => simp at hu

set_option maxHeartbeats 1000000 in
theorem Join_spec {I : Imm} {w : World} (hI : I.Holds w) {v : Value} {l : List OpS} (h : OpsRd I v l) (hmay : ∀ o ∈ l, opMay o = true) (hlen : (joinL l).length ≤ 1000000000) :
    Calls Tryz.prog 21 #[v] w fun e w' => ∃ ad c, e = .returned (.tuple #[.slice ad (joinL l).length c, .int .i64 0]) ∧ Nx [] I w I [.row 1 5 (.slice ad (joinL l).length c) (joinL l).length (bvs (joinL l))] w' := by
  obtain ⟨xs, hr, ho⟩ := id h
  obtain ⟨ad, cap, rfl, h1, h2, -⟩ := hr.ex
  have hm := h2
  unfold maxLen at hm
  have hS := (Nx.nil hI).nilRow 1 5
  go_enter Tryz.func21, Tryz.ntmps21
  go_wp2_with fail
  go_loopw [4, 10] (fun v4 v10 wr => ∃ k out ado co, k ≤ l.length ∧ Hid (out = joinL (l.take k)) ∧ v10 = .int .i64 k ∧ v4 = .slice ado out.length co ∧ Nx [] I w I [.row 1 5 (.slice ado out.length co) out.length (bvs out)] wr) (fun _ v10 _ => l.length - (intOf v10).toNat)
  case atStart => exact ⟨0, [], none, 0, by omega, Lib.hid rfl, rfl, rfl, hS⟩
  case round =>
    clear hS
    obtain ⟨k, out, ado, co, hk, Hout, rfl, rfl, hS⟩ := hrel
    by_cases hlt : k < l.length
    · obtain ⟨b0, j0, da, dc, rfl, hrd, hat⟩ := h.at k hlt
      obtain ⟨oc, od, hod⟩ : ∃ oc od, l[k] = (⟨oc, od⟩ : OpS) := ⟨_, _, rfl⟩
      have hmk : opMay ⟨oc, od⟩ = true := by rw [← hod]; exact hmay _ (List.getElem_mem hlt)
      have hsn : Hid (joinL (l.take (k + 1)) = joinL (l.take k) ++ opBytes ⟨oc, od⟩) := Lib.hid (by
        rw [List.take_succ_eq_append_getElem hlt, hod]; simp [joinL])
      have hle : (joinL (l.take (k + 1))).length ≤ 1000000000 := by
        exact Nat.le_trans (joinL_take_le l (k + 1)) hlen
      rw [hsn.out, List.length_append, ← Hout.out] at hle
      have hle2 : (opBytes ⟨oc, od⟩).length = 1 + (opHead oc + od.length) := by simp [opBytes, opLen]; omega
      rw [hle2] at hle
      have hh : opHead oc ≤ 2 := by unfold opHead; split <;> (try split) <;> omega
      rw [hod] at hrd hat
      have Hmk := Lib.hid hmk
      clear hod hle2 hmay hmk
      go_wp2_with (first | (refine sL_alloc hS rfl 30 rfl ?_; clear hS; intro bo w' hbo hS) | (first | ((with_reducible refine gL_load ?_); first | (refine sL_load hS rfl _ _ rfl _ _ rfl 0 _ _ rfl _ rfl ?_) | (refine sL_load hS rfl _ _ rfl _ _ rfl 1 _ _ rfl _ rfl ?_) | (refine sL_load hS rfl _ _ rfl _ _ rfl 2 _ _ rfl _ rfl ?_) | (refine sL_load hS rfl _ _ rfl _ _ rfl 3 _ _ rfl _ rfl ?_) | (refine sL_load hS rfl _ _ rfl _ _ rfl 4 _ _ rfl _ rfl ?_) | (refine sL_load hS rfl _ _ rfl _ _ rfl 5 _ _ rfl _ rfl ?_) | (refine sL_loadA hS rfl _ _ rfl _ _ rfl 0 _ _ rfl _ rfl rfl ?_) | (refine sL_loadA hS rfl _ _ rfl _ _ rfl 1 _ _ rfl _ rfl rfl ?_) | (refine sL_loadA hS rfl _ _ rfl _ _ rfl 2 _ _ rfl _ rfl rfl ?_) | (refine sL_loadA hS rfl _ _ rfl _ _ rfl 3 _ _ rfl _ rfl rfl ?_) | (refine sL_loadA hS rfl _ _ rfl _ _ rfl 4 _ _ rfl _ rfl rfl ?_) | (refine sL_loadA hS rfl _ _ rfl _ _ rfl 5 _ _ rfl _ rfl rfl ?_)) | ((with_reducible refine gL_store ?_); first | (refine sL_store hS rfl _ _ _ rfl _ _ rfl 0 _ _ rfl _ (by go_simp; first | exact rfl | exact ⟨rfl, rfl⟩) rfl (by simp) ?_; clear hS; intro w' hS; simp only [List.set_cons_zero] at hS) | (refine sL_store hS rfl _ _ _ rfl _ _ rfl 1 _ _ rfl _ (by go_simp; first | exact rfl | exact ⟨rfl, rfl⟩) rfl (by simp) ?_; clear hS; intro w' hS; simp only [List.set_cons_zero, List.set_cons_succ] at hS) | (refine sL_store hS rfl _ _ _ rfl _ _ rfl 2 _ _ rfl _ (by go_simp; first | exact rfl | exact ⟨rfl, rfl⟩) rfl (by simp) ?_; clear hS; intro w' hS; simp only [List.set_cons_zero, List.set_cons_succ] at hS) | (refine sL_store hS rfl _ _ _ rfl _ _ rfl 3 _ _ rfl _ (by go_simp; first | exact rfl | exact ⟨rfl, rfl⟩) rfl (by simp) ?_; clear hS; intro w' hS; simp only [List.set_cons_zero, List.set_cons_succ] at hS) | (refine sL_store hS rfl _ _ _ rfl _ _ rfl 4 _ _ rfl _ (by go_simp; first | exact rfl | exact ⟨rfl, rfl⟩) rfl (by simp) ?_; clear hS; intro w' hS; simp only [List.set_cons_zero, List.set_cons_succ] at hS) | (refine sL_store hS rfl _ _ _ rfl _ _ rfl 5 _ _ rfl _ (by go_simp; first | exact rfl | exact ⟨rfl, rfl⟩) rfl (by simp) ?_; clear hS; intro w' hS; simp only [List.set_cons_zero, List.set_cons_succ] at hS) | (refine sL_storeB hS rfl _ _ _ rfl _ rfl 0 _ _ rfl _ (by go_simp; first | exact rfl | exact ⟨rfl, rfl⟩) (by rfl) (by rfl) (by simp [Value.oneCell']) ?_; clear hS; intro w' hS; simp only [List.set_cons_zero] at hS) | (refine sL_storeB hS rfl _ _ _ rfl _ rfl 1 _ _ rfl _ (by go_simp; first | exact rfl | exact ⟨rfl, rfl⟩) (by rfl) (by rfl) (by simp [Value.oneCell']) ?_; clear hS; intro w' hS; simp only [List.set_cons_zero, List.set_cons_succ] at hS) | (refine sL_storeB hS rfl _ _ _ rfl _ rfl 2 _ _ rfl _ (by go_simp; first | exact rfl | exact ⟨rfl, rfl⟩) (by rfl) (by rfl) (by simp [Value.oneCell']) ?_; clear hS; intro w' hS; simp only [List.set_cons_zero, List.set_cons_succ] at hS) | (refine sL_storeB hS rfl _ _ _ rfl _ rfl 3 _ _ rfl _ (by go_simp; first | exact rfl | exact ⟨rfl, rfl⟩) (by rfl) (by rfl) (by simp [Value.oneCell']) ?_; clear hS; intro w' hS; simp only [List.set_cons_zero, List.set_cons_succ] at hS) | (refine sL_storeB hS rfl _ _ _ rfl _ rfl 4 _ _ rfl _ (by go_simp; first | exact rfl | exact ⟨rfl, rfl⟩) (by rfl) (by rfl) (by simp [Value.oneCell']) ?_; clear hS; intro w' hS; simp only [List.set_cons_zero, List.set_cons_succ] at hS) | (refine sL_storeB hS rfl _ _ _ rfl _ rfl 5 _ _ rfl _ (by go_simp; first | exact rfl | exact ⟨rfl, rfl⟩) (by rfl) (by rfl) (by simp [Value.oneCell']) ?_; clear hS; intro w' hS; simp only [List.set_cons_zero, List.set_cons_succ] at hS)) | ((with_reducible refine gL_alloc ?_); (refine sL_alloc hS rfl _ rfl ?_; clear hS; intro b w' hb hS)) | ((with_reducible refine gL_box ?_); (refine sL_box hS rfl _ _ rfl _ (by go_simp; first | exact rfl | exact ⟨rfl, rfl⟩) ?_; clear hS; intro b w' hb hS))) | (refine sL_loadIA hS rfl _ _ rfl _ _ rfl _ hat rfl ?_) | (go_at_call 53; refine (may_spec (by omega) od rfl hS.hI).mono ?_; rintro e w' ⟨rfl, hn⟩; replace hS := hS.pure0 hn; clear hn; rw [Hmk.out]) | ((with_reducible refine gL_lit ?_); first | (refine sL_lit0 hS rfl _ rfl ?_; clear hS; intro b w' hb hS) | (refine sL_lit1 hS rfl _ _ rfl _ (by go_simp; first | exact rfl | exact ⟨rfl, rfl⟩) rfl ?_; clear hS; intro b w' hb hS) | (refine sL_lit2 hS rfl _ _ _ rfl _ _ (by go_simp; first | exact rfl | exact ⟨rfl, rfl⟩) (by go_simp; first | exact rfl | exact ⟨rfl, rfl⟩) rfl rfl ?_; clear hS; intro b w' hb hS) | (refine sL_lit12 hS rfl _ _ rfl _ _ (by go_simp; first | exact rfl | exact ⟨rfl, rfl⟩) ?_; clear hS; intro b w' hb hS)) | ((with_reducible refine gL_app ?_); (refine sL_append hS rfl _ _ _ rfl 2 _ _ _ rfl rfl _ _ _ _ rfl (by first | (simp; done) | (simp only [List.length_map]; omega)) (hS.srcBlk (i := 0) rfl) (by simp [Value.oneCell']) (by first | omega | (simp only [List.length_append, List.length_cons, List.length_nil]; omega)) ?_; clear hS; intro ad' c' w' hS hnil hown; simp only [List.set_cons_zero, List.set_cons_succ] at hS; replace hS := hS.drop)) | (go_at_call 54; refine (head_spec hS.hI).mono ?_; rintro e w' ⟨rfl, rfl⟩))
      have Hout1 := Hout
      have Hlt := Lib.hid hlt
      go_loopw [4, 25] (fun v4 v25 wr => ∃ i out2 ad2 c2, i ≤ opHead oc ∧ Hid (out2 = out ++ oc :: (opLen ⟨oc, od⟩).take i) ∧ Hid (out2.length = out.length + 1 + i) ∧ v25 = .int .i64 i ∧ v4 = .slice ad2 out2.length c2 ∧ Nx [] I w I [.blk bo [bv oc, .slice da od.length dc] 30, .row 1 5 (.slice ad2 out2.length c2) out2.length (bvs out2)] wr) (fun _ v25 _ => opHead oc - (intOf v25).toNat)
      case atStart => exact ⟨0, out ++ [oc], ad', c', by omega, Lib.hid (by simp), Lib.hid (by simp), rfl, by simp, by simpa using hS⟩
      case round =>
        clear hS
        obtain ⟨i, out2, ad2, c2, hi, Hout2, Hl2, rfl, rfl, hS⟩ := hrel
        have hl2 : out2.length ≤ 1000000000 := by rw [Hl2.out]; omega
        by_cases hih : i < opHead oc
        · obtain ⟨bi, hbi⟩ : ∃ bi, bi = UInt8.ofNat (od.length / 256 ^ i) := ⟨_, rfl⟩
          have htk := opLen_take ⟨oc, od⟩ i hih
          rw [← hbi] at htk
          have Htk := Lib.hid htk
          have Hbi : Hid ((bi.toNat : Int) = (od.length : Int) / 256 ^ i % 256) := Lib.hid (by rw [hbi]; simp)
          clear htk hbi
          have hi2 : i = 0 ∨ i = 1 := by omega
          rcases hi2 with rfl | rfl
          all_goals
            go_wp2_with (first | (first | ((with_reducible refine gL_load ?_); first | (refine sL_load hS rfl _ _ rfl _ _ rfl 0 _ _ rfl _ rfl ?_) | (refine sL_load hS rfl _ _ rfl _ _ rfl 1 _ _ rfl _ rfl ?_) | (refine sL_load hS rfl _ _ rfl _ _ rfl 2 _ _ rfl _ rfl ?_) | (refine sL_load hS rfl _ _ rfl _ _ rfl 3 _ _ rfl _ rfl ?_) | (refine sL_load hS rfl _ _ rfl _ _ rfl 4 _ _ rfl _ rfl ?_) | (refine sL_load hS rfl _ _ rfl _ _ rfl 5 _ _ rfl _ rfl ?_) | (refine sL_loadA hS rfl _ _ rfl _ _ rfl 0 _ _ rfl _ rfl rfl ?_) | (refine sL_loadA hS rfl _ _ rfl _ _ rfl 1 _ _ rfl _ rfl rfl ?_) | (refine sL_loadA hS rfl _ _ rfl _ _ rfl 2 _ _ rfl _ rfl rfl ?_) | (refine sL_loadA hS rfl _ _ rfl _ _ rfl 3 _ _ rfl _ rfl rfl ?_) | (refine sL_loadA hS rfl _ _ rfl _ _ rfl 4 _ _ rfl _ rfl rfl ?_) | (refine sL_loadA hS rfl _ _ rfl _ _ rfl 5 _ _ rfl _ rfl rfl ?_)) | ((with_reducible refine gL_store ?_); first | (refine sL_store hS rfl _ _ _ rfl _ _ rfl 0 _ _ rfl _ (by go_simp; first | exact rfl | exact ⟨rfl, rfl⟩) rfl (by simp) ?_; clear hS; intro w' hS; simp only [List.set_cons_zero] at hS) | (refine sL_store hS rfl _ _ _ rfl _ _ rfl 1 _ _ rfl _ (by go_simp; first | exact rfl | exact ⟨rfl, rfl⟩) rfl (by simp) ?_; clear hS; intro w' hS; simp only [List.set_cons_zero, List.set_cons_succ] at hS) | (refine sL_store hS rfl _ _ _ rfl _ _ rfl 2 _ _ rfl _ (by go_simp; first | exact rfl | exact ⟨rfl, rfl⟩) rfl (by simp) ?_; clear hS; intro w' hS; simp only [List.set_cons_zero, List.set_cons_succ] at hS) | (refine sL_store hS rfl _ _ _ rfl _ _ rfl 3 _ _ rfl _ (by go_simp; first | exact rfl | exact ⟨rfl, rfl⟩) rfl (by simp) ?_; clear hS; intro w' hS; simp only [List.set_cons_zero, List.set_cons_succ] at hS) | (refine sL_store hS rfl _ _ _ rfl _ _ rfl 4 _ _ rfl _ (by go_simp; first | exact rfl | exact ⟨rfl, rfl⟩) rfl (by simp) ?_; clear hS; intro w' hS; simp only [List.set_cons_zero, List.set_cons_succ] at hS) | (refine sL_store hS rfl _ _ _ rfl _ _ rfl 5 _ _ rfl _ (by go_simp; first | exact rfl | exact ⟨rfl, rfl⟩) rfl (by simp) ?_; clear hS; intro w' hS; simp only [List.set_cons_zero, List.set_cons_succ] at hS) | (refine sL_storeB hS rfl _ _ _ rfl _ rfl 0 _ _ rfl _ (by go_simp; first | exact rfl | exact ⟨rfl, rfl⟩) (by rfl) (by rfl) (by simp [Value.oneCell']) ?_; clear hS; intro w' hS; simp only [List.set_cons_zero] at hS) | (refine sL_storeB hS rfl _ _ _ rfl _ rfl 1 _ _ rfl _ (by go_simp; first | exact rfl | exact ⟨rfl, rfl⟩) (by rfl) (by rfl) (by simp [Value.oneCell']) ?_; clear hS; intro w' hS; simp only [List.set_cons_zero, List.set_cons_succ] at hS) | (refine sL_storeB hS rfl _ _ _ rfl _ rfl 2 _ _ rfl _ (by go_simp; first | exact rfl | exact ⟨rfl, rfl⟩) (by rfl) (by rfl) (by simp [Value.oneCell']) ?_; clear hS; intro w' hS; simp only [List.set_cons_zero, List.set_cons_succ] at hS) | (refine sL_storeB hS rfl _ _ _ rfl _ rfl 3 _ _ rfl _ (by go_simp; first | exact rfl | exact ⟨rfl, rfl⟩) (by rfl) (by rfl) (by simp [Value.oneCell']) ?_; clear hS; intro w' hS; simp only [List.set_cons_zero, List.set_cons_succ] at hS) | (refine sL_storeB hS rfl _ _ _ rfl _ rfl 4 _ _ rfl _ (by go_simp; first | exact rfl | exact ⟨rfl, rfl⟩) (by rfl) (by rfl) (by simp [Value.oneCell']) ?_; clear hS; intro w' hS; simp only [List.set_cons_zero, List.set_cons_succ] at hS) | (refine sL_storeB hS rfl _ _ _ rfl _ rfl 5 _ _ rfl _ (by go_simp; first | exact rfl | exact ⟨rfl, rfl⟩) (by rfl) (by rfl) (by simp [Value.oneCell']) ?_; clear hS; intro w' hS; simp only [List.set_cons_zero, List.set_cons_succ] at hS)) | ((with_reducible refine gL_alloc ?_); (refine sL_alloc hS rfl _ rfl ?_; clear hS; intro b w' hb hS)) | ((with_reducible refine gL_box ?_); (refine sL_box hS rfl _ _ rfl _ (by go_simp; first | exact rfl | exact ⟨rfl, rfl⟩) ?_; clear hS; intro b w' hb hS))) | ((with_reducible refine gL_lit ?_); first | (refine sL_lit0 hS rfl _ rfl ?_; clear hS; intro b w' hb hS) | (refine sL_lit1 hS rfl _ _ rfl _ (by go_simp; first | exact rfl | exact ⟨rfl, rfl⟩) rfl ?_; clear hS; intro b w' hb hS) | (refine sL_lit2 hS rfl _ _ _ rfl _ _ (by go_simp; first | exact rfl | exact ⟨rfl, rfl⟩) (by go_simp; first | exact rfl | exact ⟨rfl, rfl⟩) rfl rfl ?_; clear hS; intro b w' hb hS) | (refine sL_lit12 hS rfl _ _ rfl _ _ (by go_simp; first | exact rfl | exact ⟨rfl, rfl⟩) ?_; clear hS; intro b w' hb hS)) | ((with_reducible refine gL_app ?_); (refine sL_append hS rfl _ _ _ rfl 2 _ _ _ rfl rfl _ _ _ _ rfl (by first | (simp; done) | (simp only [List.length_map]; omega)) (hS.srcBlk (i := 0) rfl) (by simp [Value.oneCell']) (by first | omega | (simp only [List.length_append, List.length_cons, List.length_nil]; omega)) ?_; clear hS; intro ad' c' w' hS hnil hown; simp only [List.set_cons_zero, List.set_cons_succ] at hS; replace hS := hS.drop)))
            go_roundw
            case rel =>
              refine ⟨_, out2 ++ [bi], ad', c', hih, Lib.hid (by rw [Htk.out, Hout2.out]; simp), Lib.hid (by simp [Hl2.out]), rfl, by simp, ?_⟩
              have e := Hbi.out
              simp only [Int.pow_zero, Int.pow_one, Int.ediv_one, Int.pow_succ, Int.one_mul] at e
              simpa [bv, e] using hS
            case measure => simp [intOf]; omega
        · obtain rfl : i = opHead oc := by omega
          go_wp2_with (first | (first | ((with_reducible refine gL_load ?_); first | (refine sL_load hS rfl _ _ rfl _ _ rfl 0 _ _ rfl _ rfl ?_) | (refine sL_load hS rfl _ _ rfl _ _ rfl 1 _ _ rfl _ rfl ?_) | (refine sL_load hS rfl _ _ rfl _ _ rfl 2 _ _ rfl _ rfl ?_) | (refine sL_load hS rfl _ _ rfl _ _ rfl 3 _ _ rfl _ rfl ?_) | (refine sL_load hS rfl _ _ rfl _ _ rfl 4 _ _ rfl _ rfl ?_) | (refine sL_load hS rfl _ _ rfl _ _ rfl 5 _ _ rfl _ rfl ?_) | (refine sL_loadA hS rfl _ _ rfl _ _ rfl 0 _ _ rfl _ rfl rfl ?_) | (refine sL_loadA hS rfl _ _ rfl _ _ rfl 1 _ _ rfl _ rfl rfl ?_) | (refine sL_loadA hS rfl _ _ rfl _ _ rfl 2 _ _ rfl _ rfl rfl ?_) | (refine sL_loadA hS rfl _ _ rfl _ _ rfl 3 _ _ rfl _ rfl rfl ?_) | (refine sL_loadA hS rfl _ _ rfl _ _ rfl 4 _ _ rfl _ rfl rfl ?_) | (refine sL_loadA hS rfl _ _ rfl _ _ rfl 5 _ _ rfl _ rfl rfl ?_)) | ((with_reducible refine gL_store ?_); first | (refine sL_store hS rfl _ _ _ rfl _ _ rfl 0 _ _ rfl _ (by go_simp; first | exact rfl | exact ⟨rfl, rfl⟩) rfl (by simp) ?_; clear hS; intro w' hS; simp only [List.set_cons_zero] at hS) | (refine sL_store hS rfl _ _ _ rfl _ _ rfl 1 _ _ rfl _ (by go_simp; first | exact rfl | exact ⟨rfl, rfl⟩) rfl (by simp) ?_; clear hS; intro w' hS; simp only [List.set_cons_zero, List.set_cons_succ] at hS) | (refine sL_store hS rfl _ _ _ rfl _ _ rfl 2 _ _ rfl _ (by go_simp; first | exact rfl | exact ⟨rfl, rfl⟩) rfl (by simp) ?_; clear hS; intro w' hS; simp only [List.set_cons_zero, List.set_cons_succ] at hS) | (refine sL_store hS rfl _ _ _ rfl _ _ rfl 3 _ _ rfl _ (by go_simp; first | exact rfl | exact ⟨rfl, rfl⟩) rfl (by simp) ?_; clear hS; intro w' hS; simp only [List.set_cons_zero, List.set_cons_succ] at hS) | (refine sL_store hS rfl _ _ _ rfl _ _ rfl 4 _ _ rfl _ (by go_simp; first | exact rfl | exact ⟨rfl, rfl⟩) rfl (by simp) ?_; clear hS; intro w' hS; simp only [List.set_cons_zero, List.set_cons_succ] at hS) | (refine sL_store hS rfl _ _ _ rfl _ _ rfl 5 _ _ rfl _ (by go_simp; first | exact rfl | exact ⟨rfl, rfl⟩) rfl (by simp) ?_; clear hS; intro w' hS; simp only [List.set_cons_zero, List.set_cons_succ] at hS) | (refine sL_storeB hS rfl _ _ _ rfl _ rfl 0 _ _ rfl _ (by go_simp; first | exact rfl | exact ⟨rfl, rfl⟩) (by rfl) (by rfl) (by simp [Value.oneCell']) ?_; clear hS; intro w' hS; simp only [List.set_cons_zero] at hS) | (refine sL_storeB hS rfl _ _ _ rfl _ rfl 1 _ _ rfl _ (by go_simp; first | exact rfl | exact ⟨rfl, rfl⟩) (by rfl) (by rfl) (by simp [Value.oneCell']) ?_; clear hS; intro w' hS; simp only [List.set_cons_zero, List.set_cons_succ] at hS) | (refine sL_storeB hS rfl _ _ _ rfl _ rfl 2 _ _ rfl _ (by go_simp; first | exact rfl | exact ⟨rfl, rfl⟩) (by rfl) (by rfl) (by simp [Value.oneCell']) ?_; clear hS; intro w' hS; simp only [List.set_cons_zero, List.set_cons_succ] at hS) | (refine sL_storeB hS rfl _ _ _ rfl _ rfl 3 _ _ rfl _ (by go_simp; first | exact rfl | exact ⟨rfl, rfl⟩) (by rfl) (by rfl) (by simp [Value.oneCell']) ?_; clear hS; intro w' hS; simp only [List.set_cons_zero, List.set_cons_succ] at hS) | (refine sL_storeB hS rfl _ _ _ rfl _ rfl 4 _ _ rfl _ (by go_simp; first | exact rfl | exact ⟨rfl, rfl⟩) (by rfl) (by rfl) (by simp [Value.oneCell']) ?_; clear hS; intro w' hS; simp only [List.set_cons_zero, List.set_cons_succ] at hS) | (refine sL_storeB hS rfl _ _ _ rfl _ rfl 5 _ _ rfl _ (by go_simp; first | exact rfl | exact ⟨rfl, rfl⟩) (by rfl) (by rfl) (by simp [Value.oneCell']) ?_; clear hS; intro w' hS; simp only [List.set_cons_zero, List.set_cons_succ] at hS)) | ((with_reducible refine gL_alloc ?_); (refine sL_alloc hS rfl _ rfl ?_; clear hS; intro b w' hb hS)) | ((with_reducible refine gL_box ?_); (refine sL_box hS rfl _ _ rfl _ (by go_simp; first | exact rfl | exact ⟨rfl, rfl⟩) ?_; clear hS; intro b w' hb hS))) | ((with_reducible refine gL_app ?_); (refine sL_append hS rfl _ _ _ rfl 1 _ _ _ rfl rfl _ _ _ _ rfl (by first | (simp; done) | (simp only [List.length_map]; omega)) ((hrd).src hS.hI) (bvs_one _) (by first | omega | (simp only [List.length_append, List.length_cons, List.length_nil]; omega)) ?_; clear hS; intro ad' c' w' hS hnil hown; simp only [List.set_cons_zero, List.set_cons_succ] at hS)))
          go_roundw
          case rel =>
            refine ⟨k + 1, out2 ++ od, ad', c', Hlt.out, Lib.hid ?_, by go_num, by simp, ?_⟩
            · rw [hsn.out, ← Hout1.out, Hout2.out, List.take_of_length_le (by rw [opLen_length]; exact Nat.le_refl _)]; simp [opBytes]
            · simpa using hS.drop
          case measure => have := Hlt.out; simp [intOf]; omega
    · obtain rfl : k = l.length := by omega
      go_wp2
      go_ret2
      have e : joinL l = out := by rw [Hout.out, List.take_length]
      rw [e]
      exact ⟨_, _, rfl, hS⟩
end Go.Proofs.YtmlgieclkedomaaGreat

namespace Go.Proofs.YtmlgieclkedomaaGreat
open Go Go.RowKit

theorem joinL_one (o : OpS) : joinL [o] = opBytes o := by simp [joinL]

/-- bytes that a call owns -/
@[reducible] def brow (ad : Option Addr) (c : Nat) (l : List UInt8) : Item := .row 1 5 (.slice ad l.length c) l.length (bvs l)
theorem bvs_app (a b : List UInt8) : bvs (a ++ b) = bvs a ++ bvs b := by simp [bvs]
theorem Nx.asB {L0 : List Item} {I0 I : Imm} {w0 w : World} {L : List Item} {ad : Option Addr} {m c : Nat} {xs : List Value} (h : Nx L0 I0 w0 I (.row 1 5 (.slice ad m c) m xs :: L) w) (l : List UInt8) (hm : m = l.length) (hx : xs = bvs l) :
    Nx L0 I0 w0 I (brow ad c l :: L) w := by
  subst hm hx; exact h
theorem RdB.nil {I : Imm} : RdB I (.slice none 0 0) [] := ⟨⟨none, 0, rfl, Nat.le_refl _, by decide, .inl ⟨trivial, rfl, rfl, rfl⟩⟩⟩

end Go.Proofs.YtmlgieclkedomaaGreat

namespace Go.Proofs.YtmlgieclkedomaaGreat
open Go Go.RowKit

theorem Encode_spec {I : Imm} {w : World} {n : Int} (hI : I.Holds w) (h1 : -549755813888 < n) (h2 : n < 549755813888) :
    Calls Tryz.prog 30 #[.int .i64 n] w fun e w' => ∃ ad c, e = .returned (.tuple #[.slice ad (numB n).length c, .int .i64 0]) ∧ Nx [] I w I [brow ad c (numB n)] w' := by
  have hS := Nx.nil hI
  go_enter Tryz.func30, Tryz.ntmps30
  go_wp2_with (first | (go_at_call 59; refine (form_spec hS.hI (by omega) (by omega)).mono ?_; rintro e w' ⟨v, rfl, hn⟩; replace hS := hS.pure1 hn; clear hn))
  go_ret2
  obtain ⟨ad, c, rfl, _⟩ := hS.rowVal (i := 0) rfl
  exact ⟨ad, c, rfl, hS⟩

end Go.Proofs.YtmlgieclkedomaaGreat

namespace Go.Proofs.YtmlgieclkedomaaGreat
open Go Go.RowKit

theorem Nx.blkCell {L0 : List Item} {I0 I : Imm} {w0 w : World} {L : List Item} (h : Nx L0 I0 w0 I L w) (i : Nat) {b : Nat} {cs : List Value} {e : TypeId} (hi : L[i]? = some (.blk b cs e)) (j : Nat) {v : Value} (hv : cs[j]? = some v) : w.cell? ⟨b, j, none⟩ = some v := by
  have hb : w.heap[b]? = some (.cells cs.toArray e (0, 0)) := h.get hi
  simp [World.cell?, hb, hv]

def kpost (K : Act → World → Prop) (Q : Exit → Act → World → Prop) : Exit → Act → World → Prop
  | .normal, a, w => K a w
  | e, a, w => Q e a w

section
variable {P : Program} {l : List Oper} {Q : Exit → Act → World → Prop} {S : World → Prop} {need : List Nat} {a : Act} {w : World} {fuel : Nat} {listed : Array Bool}

/-- whatever order is picked from here on; S holds behind each of the operations in 'need' -/
def wpX (P : Program) (l : List Oper) (Q : Exit → Act → World → Prop) (S : World → Prop) (need : List Nat) : Nat → Array Bool → Act → World → Prop
  | 0, listed, a, w => Region.ready .any l.toArray listed = [] ∧ Q .normal a w
  | fuel + 1, listed, a, w =>
    (Region.ready .any l.toArray listed = [] → Q .normal a w) ∧
    ∀ i ∈ Region.ready .any l.toArray listed, wpOp P l.toArray Q i (fun a' w' => (need.contains i = true → S w') ∧ wpX P l Q S need fuel (listed.setIfInBounds i true) a' w') a w

theorem wpX_any : ∀ (fuel : Nat) (listed : Array Bool) (a : Act) (w : World), wpX P l Q S need fuel listed a w → wpAny P .any l.toArray Q fuel listed a w
  | 0, _, _, _, h => h
  | fuel + 1, _, _, _, h => ⟨h.1, fun i hi => wpOp_mono (fun a' w' h' => wpX_any fuel _ a' w' h'.2) (h.2 i hi)⟩

/-- what yields its value in every world that meets T may be taken first, if T is kept by all that may come ahead of it -/
theorem wpX_take {i : Nat} {oi : Oper} {v : Value} {T : World → Prop} (hi : l.toArray[i]? = some oi) (hs : Region.noSelect l.toArray = true)
    (hQ : ∀ c a w, Q (.panic c) (a.put oi.dst v) w → Q (.panic c) a w) (hTS : ∀ w, T w → need.contains i = true → S w) :
    ∀ (fuel : Nat) (listed : Array Bool) (a : Act) (w : World), (∀ j oj, l.toArray[j]? = some oj → j ≠ i → listed.getD j true = false → (∀ e ∈ oj.after, Region.binds .any e = true → e.on ≠ i) → ∀ w', (need.contains j = true → S w') → T w') → Region.free .any l.toArray listed i = true →
      i ∈ Region.ready .any l.toArray listed → YieldsIf P l.toArray T oi v a → T w →
      wpX P l Q S need fuel (listed.setIfInBounds i true) (a.put oi.dst v) w → wpX P l Q S need (fuel + 1) listed a w := by
  intro fuel
  induction fuel with
  | zero =>
    intro listed a w _ _ hr hy hT0 H
    refine ⟨fun h => (by rw [h] at hr; cases hr), fun j hj => ?_⟩
    by_cases hji : j = i
    · subst hji; exact hy.wpOp hi hT0 ⟨hTS w hT0, H⟩
    · have h1 := ready_mono hj hji
      rw [H.1] at h1; cases h1
  | succ fuel ih =>
    intro listed a w hT hf hr hy hT0 H
    refine ⟨fun h => (by rw [h] at hr; cases hr), fun j hj => ?_⟩
    by_cases hji : j = i
    · subst hji; exact hy.wpOp hi hT0 ⟨hTS w hT0, H⟩
    · obtain ⟨hun, oj, hoj, hall⟩ := mem_ready.1 hj
      have hiun := (mem_ready.1 hr).1
      have hno : ∀ e ∈ oj.after, Region.binds .any e = true → e.on ≠ i := fun e he hb heq => by
        have h1 := hall e he hb
        subst heq
        have hlt : e.on < listed.size := by
          rcases Nat.lt_or_ge e.on listed.size with h' | h'
          · exact h'
          · rw [Array.getD_eq_getD_getElem?, Array.getElem?_eq_none h'] at h1; cases h1
        rw [Array.getD_eq_getD_getElem?, Array.getElem?_eq_getElem hlt] at h1 hiun
        simp only [Option.getD_some] at h1 hiun
        rw [h1] at hiun; cases hiun
      have h2 := wpOp_putIf hoj (Region.free_spec hi hf j oj hoj hji hun hno) (fun cs b => Region.noSelect_spec hs i oi cs b hi) (fun cs b => Region.noSelect_spec hs j oj cs b hoj) hQ hy (H.2 j (ready_mono hj hji))
      refine wpOp_mono (fun a' w' h3 => ⟨h3.2.1, ih _ a' w' ?_ ?_ (ready_mono hr (Ne.symm hji)) h3.1 (hT j oj hoj hji hun hno w' h3.2.1) ?_⟩) h2
      · intro k ok hk hki hku hkn w' hn
        refine hT k ok hk hki ?_ hkn w' hn
        by_cases hjk : j = k
        · subst hjk; exact hun
        · rwa [getD_set_ne true hjk] at hku
      · unfold Region.free at hf ⊢
        rw [hi] at hf ⊢
        simp only [List.all_eq_true] at hf ⊢
        intro k hk
        have h4 := hf k hk
        by_cases hjk : j = k
        · subst hjk
          have : (listed.setIfInBounds j true).getD j true = true := by
            rw [Array.getD_eq_getD_getElem?, Array.getElem?_setIfInBounds]
            rw [if_pos rfl]
            split
            · rfl
            · rename_i hlt; rfl
          rw [this]; simp
        · rw [getD_set_ne true hjk]; exact h4
      · rw [Array.setIfInBounds_comm _ _ hji]
        exact h3.2.2

/-- the checks of a take, by the kernel -/
def takeOK (l : List Oper) (listed : Array Bool) (i : Nat) : Bool :=
  Region.noSelect l.toArray && Region.free .any l.toArray listed i && (Region.ready .any l.toArray listed).contains i
/-- what may come ahead of i is in need -/
def needOK (l : List Oper) (need : List Nat) (listed : Array Bool) (i : Nat) : Bool :=
  (List.range l.length).all fun j => j == i || listed.getD j true || need.contains j || match l[j]? with | some oj => oj.after.any (fun e => Region.binds .any e && e.on == i) | none => true

theorem rg_start (S : World → Prop) (need : List Nat) {id : Nat} (hm : P.follows .mixedOrders = true)
    (h : wpX P l Q S need l.length (Array.replicate l.length false) a w.drew) : (Code.region id l.toArray true).wp P Q a w :=
  wp_region_any hm (by simpa using wpX_any _ _ _ _ h)

theorem rg_free (i : Nat) {oi : Oper} {v : Value} (hi : l[i]? = some oi) (hk : (takeOK l listed i && !need.contains i) = true)
    (hy : YieldsIf P l.toArray (fun _ => True) oi v a) (hQ : ∀ c a w, Q (.panic c) (a.put oi.dst v) w → Q (.panic c) a w)
    (h : wpX P l Q S need fuel (listed.setIfInBounds i true) (a.put oi.dst v) w) : wpX P l Q S need (fuel + 1) listed a w := by
  simp only [takeOK, Bool.and_eq_true, Bool.not_eq_true'] at hk
  exact wpX_take (T := fun _ => True) (by simpa using hi) hk.1.1.1 hQ (fun _ _ h => by rw [hk.2] at h; cases h) fuel listed a w (fun _ _ _ _ _ _ _ _ => trivial) hk.1.1.2 (by simpa using hk.1.2) hy trivial h

theorem rg_if (i : Nat) {oi : Oper} {v : Value} (hi : l[i]? = some oi) (hk : (takeOK l listed i && needOK l need listed i) = true) (hS : S w)
    (hy : YieldsIf P l.toArray S oi v a) (hQ : ∀ c a w, Q (.panic c) (a.put oi.dst v) w → Q (.panic c) a w)
    (h : wpX P l Q S need fuel (listed.setIfInBounds i true) (a.put oi.dst v) w) : wpX P l Q S need (fuel + 1) listed a w := by
  simp only [takeOK, Bool.and_eq_true] at hk
  refine wpX_take (T := S) (by simpa using hi) hk.1.1.1 hQ (fun _ h _ => h) fuel listed a w (fun j oj hj hne hun hno w' hn => hn ?_) hk.1.1.2 (by simpa using hk.1.2) hy hS h
  have h2 := hk.2
  simp only [needOK, List.all_eq_true, List.mem_range] at h2
  have hj' : l[j]? = some oj := by simpa using hj
  have h3 := h2 j (List.getElem?_eq_some_iff.1 hj').1
  rw [hj', hun] at h3
  simp only [Bool.or_eq_true, beq_iff_eq, hne, false_or, Bool.false_eq_true] at h3
  rcases h3 with h3 | h3
  · exact h3
  · rw [Array.any_eq_true'] at h3
    obtain ⟨e, he, h4⟩ := h3
    simp only [Bool.and_eq_true, beq_iff_eq] at h4
    exact absurd h4.2 (hno e he h4.1)

/-- what yields whatever the world is -/
theorem rg_pure (i : Nat) {oi : Oper} {v : Value} (hi : l[i]? = some oi) (hk : (takeOK l listed i && !need.contains i) = true)
    (hQ : ∀ c a w, Q (.panic c) (a.put oi.dst v) w → Q (.panic c) a w) (hw : Region.wanted oi (yielded l.toArray a.tmps) = true)
    (hy : ∀ w, (execOp a.eval oi).run P w = .ok (.value v) w)
    (h : wpX P l Q S need fuel (listed.setIfInBounds i true) (a.put oi.dst v) w) : wpX P l Q S need (fuel + 1) listed a w :=
  rg_free i hi hk (.inl ⟨hw, fun w _ => hy w⟩) hQ h
theorem rg_pureS (i : Nat) {oi : Oper} {v : Value} (hi : l[i]? = some oi) (hk : (takeOK l listed i && needOK l need listed i) = true)
    (hQ : ∀ c a w, Q (.panic c) (a.put oi.dst v) w → Q (.panic c) a w) (hw : Region.wanted oi (yielded l.toArray a.tmps) = true) (hS : S w)
    (hy : ∀ w, (execOp a.eval oi).run P w = .ok (.value v) w)
    (h : wpX P l Q S need fuel (listed.setIfInBounds i true) (a.put oi.dst v) w) : wpX P l Q S need (fuel + 1) listed a w :=
  rg_if i hi hk hS (.inl ⟨hw, fun w _ => hy w⟩) hQ h
theorem rg_skip (i : Nat) {oi : Oper} (hi : l[i]? = some oi) (hk : (takeOK l listed i && !need.contains i) = true)
    (hQ : ∀ c a w, Q (.panic c) (a.put oi.dst undef) w → Q (.panic c) a w) (hw : Region.wanted oi (yielded l.toArray a.tmps) = false)
    (h : wpX P l Q S need fuel (listed.setIfInBounds i true) (a.put oi.dst undef) w) : wpX P l Q S need (fuel + 1) listed a w :=
  rg_free i hi hk (.inr ⟨hw, rfl⟩) hQ h
theorem rg_skipS (i : Nat) {oi : Oper} (hi : l[i]? = some oi) (hk : (takeOK l listed i && needOK l need listed i) = true)
    (hQ : ∀ c a w, Q (.panic c) (a.put oi.dst undef) w → Q (.panic c) a w) (hw : Region.wanted oi (yielded l.toArray a.tmps) = false) (hS : S w)
    (h : wpX P l Q S need fuel (listed.setIfInBounds i true) (a.put oi.dst undef) w) : wpX P l Q S need (fuel + 1) listed a w :=
  rg_if i hi hk hS (.inr ⟨hw, rfl⟩) hQ h

theorem rg_load (i : Nat) {oi : Oper} (hi : l[i]? = some oi) (hk : (takeOK l listed i && needOK l need listed i) = true)
    (hw : Region.wanted oi (yielded l.toArray a.tmps) = true) (hS : S w) (T : TypeId) (x : Operand) (ho : oi.op = .load T x) (b j : Nat) (hx : a.eval x = .pointer (some ⟨b, j, none⟩)) (v : Value) [hs : Scal P T]
    (hc : ∀ w, S w → w.cell? ⟨b, j, none⟩ = some v) (hQ : ∀ c a w, Q (.panic c) (a.put oi.dst v) w → Q (.panic c) a w)
    (h : wpX P l Q S need fuel (listed.setIfInBounds i true) (a.put oi.dst v) w) : wpX P l Q S need (fuel + 1) listed a w :=
  rg_if i hi hk hS (.inl ⟨hw, fun w hS => ex_load T x ho hs.pf b j hx v (hc w hS)⟩) hQ h

theorem rg_loadA (i : Nat) {oi : Oper} (hi : l[i]? = some oi) (hk : (takeOK l listed i && needOK l need listed i) = true)
    (hw : Region.wanted oi (yielded l.toArray a.tmps) = true) (hS : S w) (T : TypeId) (x : Operand) (ho : oi.op = .load T x) (b j : Nat) (hx : a.eval x = .pointer (some ⟨b, j, none⟩)) (vs : List Value) {m : Nat} [hs : Aggr P T m] (hm : vs.length = m)
    (hc : ∀ w, S w → ∀ i u, vs[i]? = some u → w.cell? ⟨b, j + i, none⟩ = some u) (hQ : ∀ c a w, Q (.panic c) (a.put oi.dst (.agg vs.toArray)) w → Q (.panic c) a w)
    (h : wpX P l Q S need fuel (listed.setIfInBounds i true) (a.put oi.dst (.agg vs.toArray)) w) : wpX P l Q S need (fuel + 1) listed a w :=
  rg_if i hi hk hS (.inl ⟨hw, fun w hS => ex_loadA T x ho vs (by rw [hm]; exact hs.pf) b j hx (hc w hS)⟩) hQ h

theorem rg_step (i : Nat) {o : Oper} (hi : l[i]? = some o) (hr : (Region.ready .any l.toArray listed == [i]) = true)
    (h : ∀ K', Shut (∀ a w, (need.contains i = true → S w) → wpX P l Q S need fuel (listed.setIfInBounds i true) a w → K' a w) → wpList P l.toArray (kpost K' Q) [o] a w) : wpX P l Q S need (fuel + 1) listed a w := by
  have hr' : Region.ready .any l.toArray listed = [i] := by simpa using hr
  refine ⟨fun h0 => absurd (h0 ▸ hr') (by simp), fun k hk => ?_⟩
  obtain rfl : k = i := by rw [hr'] at hk; simpa using hk
  obtain ⟨K, hK⟩ : ∃ K, K = (fun a' w' => (need.contains k = true → S w') ∧ wpX P l Q S need fuel (listed.setIfInBounds k true) a' w') := ⟨_, rfl⟩
  have h2 := h K (fun a w hS hW => by rw [hK]; exact ⟨hS, hW⟩)
  unfold wpList at h2
  unfold wpOp
  simp only [List.getElem?_toArray, hi]
  rw [← hK]
  have hl : wpList P l.toArray (kpost K Q) [] = K := by funext a w; unfold wpList; rfl
  rw [hl] at h2
  split
  · rename_i hw
    rw [if_pos hw] at h2
    rcases h2 with h2 | h2
    · refine .inl ?_
      unfold Oper.wp at h2 ⊢
      generalize (execOp a.eval o).run P w = r at h2
      cases r with
      | ok n w' => cases n <;> exact h2
      | halt x w' => cases x <;> exact h2
    · exact .inr h2
  · rename_i hw
    rw [if_neg hw, hK] at h2
    exact h2

theorem rg_done (hr : (Region.ready .any l.toArray listed == []) = true) (h : Q .normal a w) : wpX P l Q S need fuel listed a w := by
  have hr' : Region.ready .any l.toArray listed = [] := by simpa using hr
  cases fuel with
  | zero => exact ⟨hr', h⟩
  | succ n => exact ⟨fun _ => h, by rw [hr']; simp⟩
theorem rg_back {K : Act → World → Prop} (h : K a w) : wpList P l.toArray (kpost K Q) [] a w := by
  unfold wpList; exact h
end
end Go.Proofs.YtmlgieclkedomaaGreat

namespace Go.Proofs.YtmlgieclkedomaaGreat
open Go Go.RowKit

/-- 32 bytes as a value -/
@[reducible] def hashV (l : List UInt8) : Value := .agg (bvs l).toArray
end Go.Proofs.YtmlgieclkedomaaGreat

namespace Go.Proofs.YtmlgieclkedomaaGreat
open Go Go.RowKit

/-- a slice of what lies in cells -/
def RepsRd {α : Type} [Rep α] (I : Imm) (v : Value) (l : List α) : Prop := ∃ xs, Rd I v l.length xs ∧ Reps I l xs
theorem RepsRd.mono {α : Type} [Rep α] {I J : Imm} (h : I.Le J) {v : Value} {l : List α} (k : RepsRd I v l) : RepsRd J v l := by
  obtain ⟨xs, h1, h2⟩ := k
  exact ⟨xs, h1.mono h, h2.mono h⟩
theorem RepsRd.at {α : Type} [Rep α] {I : Imm} {ad : Option Addr} {cap n : Nat} {l : List α} (h : RepsRd I (.slice ad n cap) l) (k : Nat) (hk : k < l.length) :
    ∃ b j c, ad = some ⟨b, j, none⟩ ∧ I.At b (j + k * Rep.sz α) c ∧ Rep.cells I l[k] c := by
  obtain ⟨xs, hr, ho⟩ := h
  obtain ⟨ad0, cap0, e, h1, h2, h3⟩ := hr.ex
  simp only [Value.slice.injEq] at e
  obtain ⟨rfl, rfl, rfl⟩ := e
  rcases h3 with ⟨_, h4, _⟩ | ⟨b, j, rfl, cur, t, fr, hb, hc⟩
  · omega
  · obtain ⟨c, g1, g2, g3⟩ := ho.get k hk
    exact ⟨b, j, c, rfl, ⟨cur, t, fr, hb, fun i u hu => by rw [Nat.add_assoc]; exact hc _ _ (g3 i u hu)⟩, g1⟩

end Go.Proofs.YtmlgieclkedomaaGreat

namespace Go.Proofs.YtmlgieclkedomaaGreat
open Go Go.RowKit
section
variable {P : Program} {ops : Array Oper} {Q : Exit → Act → World → Prop} {a : Act} {w : World} {rest : List Oper} {o : Oper} {L0 : List Item} {I0 I : Imm} {w0 : World} {L : List Item}
theorem sL_appendF (h : Nx L0 I0 w0 I L w) (hg : Region.wanted o (yielded ops a.tmps) = true) (s x : Operand) (t : TypeId) (ho : o.op = .call { callee := .builtin .append, args := #[s, x], argTypes := #[t, t] })
    {e : TypeId} {sz bytes : Nat} [hT : SliceT P t e sz bytes] (g j m : Nat) (xs : List Value) (hs : a.eval s = .slice (some ⟨g, j, none⟩) m m) (hxl : xs.length = m * sz) (hsx : ∀ i u, xs[i]? = some u → w.cell? ⟨g, j + i, none⟩ = some u)
    (g' j' m' c : Nat) (news : List Value) (hx : a.eval x = .slice (some ⟨g', j', none⟩) m' c) (hl : news.length = m' * sz) (hsn : ∀ i u, news[i]? = some u → w.cell? ⟨g', j' + i, none⟩ = some u) (hm : 0 < m')
    (hbytes : (m + m') * bytes ≤ 140737488355328)
    (k : ∀ b c' w', w0.heap.size ≤ b → Nx L0 I0 w0 I (.row sz e (.slice (some ⟨b, 0, none⟩) (m + m') c') (m + m') (xs ++ news) :: L) w' → wpList P ops Q rest (a.put o.dst (.slice (some ⟨b, 0, none⟩) (m + m') c')) w') : wpList P ops Q (o :: rest) a w := by
  obtain ⟨hsz, inf, z, hinfo, hsize, hz, hzs⟩ := sliceInfo_parts hT.i
  have hb0 := hT.pos
  have h63 : m + m' ≤ maxLen := by
    have := Nat.le_trans (Nat.le_mul_of_pos_right (m + m') hb0) hbytes
    simp only [maxLen]; omega
  have hby : inf.bytes = bytes := by
    have := hT.i
    unfold sliceInfo at this
    rw [hinfo] at this
    simp only [Bool.and_eq_true, beq_iff_eq] at this
    exact this.2.1.2
  subst hsize hby
  have hr := fun ty => run_append_grow (P := P) w t ty e inf z hT.u hinfo hz ⟨g, j, none⟩ m m xs hxl (fun i u hu => by rw [Addr.add_lit]; exact hsx i u hu) ⟨g', j', none⟩ m' c news hl (fun i u hu => by rw [Addr.add_lit]; exact hsn i u hu) (by omega) (by simp only [maxLen] at h63; omega) (growslice_fits (by omega) hbytes)
  have he : (execOp a.eval o).run P w = .ok (.value (.slice (some ⟨w.heap.size, 0, none⟩) (m + m') (grownCap w (m + m') m e))) (w.drew.alloc (.cells (xs.toArray ++ news.toArray ++ Builtin.zeroCells z.cells (grownCap w (m + m') m e - (m + m'))) e)) := by
    simp only [execOp, ho, resolve, invoke, builtin, Sem.run_bind, Sem.run_pure, Result.andThen_ok, List.map_toArray, List.map_cons, List.map_nil, hs, hx, hr]
  have hge := grownCap_ge w (m + m') m e
  have hcm : grownCap w (m + m') m e ≤ maxLen := grownCap_le_maxLen w (m + m') m e h63
  have hA := h.drew.alloc (xs ++ news ++ (Builtin.zeroCells z.cells (grownCap w (m + m') m e - (m + m'))).toList) e
  have hlen : (xs ++ news ++ (Builtin.zeroCells z.cells (grownCap w (m + m') m e - (m + m'))).toList).length = grownCap w (m + m') m e * inf.size := by
    rw [List.length_append, List.length_append, hxl, hl, Array.length_toList, size_zeroCells, hzs, ← Nat.add_mul, ← Nat.add_mul]
    congr 1; omega
  have hR := hA.closeRow (i := 0) rfl inf.size (m + m') (grownCap w (m + m') m e) (xs ++ news) _ rfl (by rw [List.length_append, hxl, hl, Nat.add_mul]) hge hcm (Nat.le_of_eq hlen.symm)
  have hw : (w.drew.alloc (.cells (xs ++ news ++ (Builtin.zeroCells z.cells (grownCap w (m + m') m e - (m + m'))).toList).toArray e)) = (w.drew.alloc (.cells (xs.toArray ++ news.toArray ++ Builtin.zeroCells z.cells (grownCap w (m + m') m e - (m + m'))) e)) := by
    congr 2
    apply Array.ext'
    simp
  rw [hw] at hR
  refine wpL_of hg he (fun _ _ => Oper.semAt_eq _ _ _ (by simp [ho])) (fun ρ => ?_) (k _ _ _ h.ev.size hR)
  simp [Oper.about, ho, resolve, Target.leads]

/-- copy into a block of the call's own -/
theorem sL_copyB (h : Nx L0 I0 w0 I L w) (hg : Region.wanted o (yielded ops a.tmps) = true) (d s : Operand) (t t' : TypeId) (ho : o.op = .call { callee := .builtin .copy, args := #[d, s], argTypes := #[t, t'] }) {e bytes : Nat} [hT : SliceT P t e 1 bytes]
    (i g off dl dc : Nat) (cs : List Value) (te : TypeId) (hd : a.eval d = .slice (some ⟨g, off, none⟩) dl dc) (hi : L[i]? = some (.blk g cs te)) (a' : Addr) (m c : Nat) (hs : a.eval s = .slice (some a') m c) (news : List Value) (hn : news.length = Nat.min m dl)
    (hsrc : ∀ j u, news[j]? = some u → w.cell? (a'.add j) = some u) (hfit : off + news.length ≤ cs.length) (h1 : ∀ u ∈ news, u.oneCell' = true)
    (k : ∀ w', Nx L0 I0 w0 I (L.set i (.blk g (cs.take off ++ news ++ cs.drop (off + news.length)) te)) w' → wpList P ops Q rest (a.put o.dst (goInt news.length)) w') : wpList P ops Q (o :: rest) a w := by
  obtain ⟨hsz, inf, z, hinfo, hsize, hz, hzs⟩ := sliceInfo_parts hT.i
  have hb : w.heap[g]? = some (.cells cs.toArray te (0, 0)) := h.get hi
  have hr := fun ty => run_copy_row (P := P) w t t' ty e g off dl dc a' m c cs.toArray te news hT.u (by rw [hinfo]; simp [hsize]) hb hn hsrc (by simpa using hfit) h1
  have he : (execOp a.eval o).run P w = .ok (.value (goInt news.length)) (w.setRow g (cs.take off ++ news ++ cs.drop (off + news.length)).toArray) := by
    simp only [execOp, ho, resolve, invoke, builtin, Sem.run_bind, Sem.run_pure, Result.andThen_ok, List.map_toArray, List.map_cons, List.map_nil, hd, hs, hr]
  refine wpL_of hg he (fun _ _ => Oper.semAt_eq _ _ _ (by simp [ho])) (fun ρ => ?_) (k _ (h.setRow hi _))
  simp [Oper.about, ho, resolve, Target.leads]
end
end Go.Proofs.YtmlgieclkedomaaGreat

namespace Go.Proofs.YtmlgieclkedomaaGreat
open Go

abbrev Bs := List UInt8
def trueB : Bs → Bool
  | [] => false
  | [c] => c != 0 && c != 128
  | c :: d :: l => c != 0 || trueB (d :: l)
def leN : Bs → Nat
  | [] => 0
  | c :: l => c.toNat + 256 * leN l
/-- what bytes say, whether they are a number's or not -/
def decI (b : Bs) : Int :=
  match b.getLast? with
  | none => 0
  | some c => if c ≥ 128 then - (leN (b.dropLast ++ [c &&& 127]) : Int) else leN b
def decB (b : Bs) : Option Int := if b.length ≤ 4 ∧ numB (decI b) = b then some (decI b) else none
def flagN (b : Bool) : Int := if b then 1 else 0
def flagB (b : Bool) : Bs := numB (flagN b)
def onesN (c : UInt8) (n : Int) : Option Int :=
  if c = 139 then some (n + 1) else if c = 140 then some (n - 1) else if c = 143 then some (-n) else if c = 144 then some n.natAbs
  else if c = 145 then some (flagN (decide (n = 0))) else if c = 146 then some (flagN (decide (n ≠ 0))) else none
def twosN (c : UInt8) (a b : Int) : Option Int :=
  if c = 147 then some (a + b) else if c = 148 then some (a - b) else if c = 154 then some (flagN (decide (a ≠ 0 ∧ b ≠ 0))) else if c = 155 then some (flagN (decide (a ≠ 0 ∨ b ≠ 0)))
  else if c = 156 then some (flagN (decide (a = b))) else if c = 157 then some (flagN (decide (a = b))) else if c = 158 then some (flagN (decide (a ≠ b))) else if c = 159 then some (flagN (decide (a < b)))
  else if c = 160 then some (flagN (decide (b < a))) else if c = 161 then some (flagN (decide (a ≤ b))) else if c = 162 then some (flagN (decide (b ≤ a))) else if c = 163 then some (min a b)
  else if c = 164 then some (max a b) else none
def isOne (c : UInt8) : Bool := c = 139 || c = 140 || c = 143 || c = 144 || c = 145 || c = 146
def isTwo (c : UInt8) : Bool := c = 147 || c = 148 || c = 154 || c = 155 || c = 156 || c = 157 || c = 158 || c = 159 || c = 160 || c = 161 || c = 162 || c = 163 || c = 164
def arityN (c : UInt8) : Nat := if isOne c then 1 else if isTwo c then 2 else if c = 165 then 3 else 0
def mayN (n : Int) : Bool := decide (-2147483647 ≤ n ∧ n ≤ 2147483647)

/-! ### operations of scripts -/
def valueB (o : OpS) : Option Bs :=
  if opMay o = false then none else if o.code ≤ 77 then some o.data else if o.code = 79 then some [129] else if 81 ≤ o.code ∧ o.code ≤ 96 then some [o.code - 80] else none
/-- the data's length, and how many bytes stand ahead; none: it is no operation -/
def longB : Bs → Option (Nat × Nat)
  | [] => none
  | c :: l =>
    if l.length < opHead c then none
    else
      let d := if opHead c > 0 then leN (l.take (opHead c)) else if c ≤ 75 then c.toNat else 0
      if l.length < opHead c + d then none else some (d, 1 + opHead c)
theorem longB_le {s : Bs} {d a : Nat} (h : longB s = some (d, a)) : 1 ≤ a ∧ a + d ≤ s.length ∧ a ≤ 3 := by
  unfold longB at h
  split at h
  · cases h
  · split at h
    · cases h
    · simp only [Option.ite_none_left_eq_some, Option.some.injEq, Prod.mk.injEq] at h
      obtain ⟨h1, rfl, rfl⟩ := h
      rename_i c l _
      have := opHead_le c
      simp only [List.length_cons]
      omega
/-- the operations with which bytes begin, and whether these are all -/
def splitG (s : Bs) : List OpS × Bool :=
  match s with
  | [] => ([], true)
  | c :: l =>
    match h : longB (c :: l) with
    | none => ([], false)
    | some (d, a) =>
      let r := splitG ((c :: l).drop (a + d))
      (⟨c, ((c :: l).drop a).take d⟩ :: r.1, r.2)
termination_by s.length
decreasing_by
  have := longB_le h
  simp only [List.length_drop, List.length_cons] at *
  omega
def splitB (s : Bs) : Option (List OpS) := if (splitG s).2 then some (splitG s).1 else none
def pushesB (s : Bs) : Bool := (splitG s).1.all (fun o => (valueB o).isSome) && (splitG s).2

/-! ### stacks: the top last -/
def leastN (c : UInt8) : Option Nat :=
  if c = 116 || c = 108 then some 0
  else if c = 117 || c = 118 || c = 115 || c = 130 || c = 107 || c = 121 || c = 122 then some 1
  else if c = 109 || c = 110 || c = 119 || c = 120 || c = 124 || c = 125 then some 2
  else if c = 111 || c = 123 then some 3
  else if c = 112 || c = 114 then some 4
  else if c = 113 then some 6 else none
def orderN (c : UInt8) : Option (List Nat) :=
  if c = 117 || c = 109 then some [] else if c = 118 then some [0, 0] else if c = 110 then some [0, 1, 0, 1] else if c = 111 then some [0, 1, 2, 0, 1, 2]
  else if c = 112 then some [0, 1, 2, 3, 0, 1] else if c = 113 then some [2, 3, 4, 5, 0, 1] else if c = 114 then some [2, 3, 0, 1] else if c = 124 then some [1, 0]
  else if c = 119 then some [1] else if c = 120 then some [0, 1, 0] else if c = 123 then some [1, 2, 0] else if c = 125 then some [1, 0, 1] else none
def lastN (l : List Bs) (n : Nat) : List Bs := l.drop (l.length - n)
def butN (l : List Bs) (n : Nat) : List Bs := l.take (l.length - n)
/-- far: pick, or roll -/
def farS (takes : Bool) (s : List Bs) : Except Int (List Bs) :=
  match s.getLast? with
  | none => .error 120
  | some b =>
    match decB b with
    | none => .error 110
    | some n =>
      let r := s.dropLast
      if n < 0 ∨ (r.length : Int) ≤ n then .error 120
      else
        let at' := r.length - 1 - n.toNat
        let b := r.getD at' []
        .ok ((if takes then r.eraseIdx at' else r) ++ [b])
def doS (c : UInt8) (s o : List Bs) : Except Int (List Bs × List Bs) :=
  match orderN c with
  | some p => .ok (butN s ((leastN c).getD 0) ++ p.map (fun i => (lastN s ((leastN c).getD 0)).getD i []), o)
  | none =>
    if c = 107 then .ok (butN s 1, o ++ lastN s 1)
    else if c = 108 then (if o.length = 0 then .error 120 else .ok (s ++ lastN o 1, butN o 1))
    else if c = 115 then .ok (if trueB (s.getLastD []) then s ++ [s.getLastD []] else s, o)
    else if c = 116 then .ok (s ++ [numB s.length], o)
    else if c = 130 then .ok (s ++ [numB (s.getLastD []).length], o)
    else match farS (decide (c = 122)) s with
      | .error e => .error e
      | .ok s' => .ok (s', o)
def stackDo (c : UInt8) (s o : List Bs) : Except Int (List Bs × List Bs) :=
  match leastN c with
  | none => .error 2
  | some n =>
    if s.length < n then .error 120
    else match doS c s o with
      | .error e => .error e
      | .ok (s', o') => if s'.length + o'.length > 100 then .error 121 else .ok (s', o')

/-! ### the machine -/
structure PM where
  stk : List Bs
  alt : List Bs
  br : List Nat
  many : Nat
abbrev RM (α : Type) := Except Int (α × PM)
def okM {α : Type} (a : α) (m : PM) : RM α := .ok (a, m)
def bindM {α β : Type} (x : RM α) (f : α → PM → RM β) : RM β := match x with | .error e => .error e | .ok (a, m) => f a m
def popM (m : PM) : RM Bs := match m.stk.getLast? with | none => .error 120 | some b => .ok (b, { m with stk := m.stk.dropLast })
def numM (m : PM) : RM Int :=
  match m.stk.getLast? with
  | none => .error 120
  | some b => match decB b with | none => .error 110 | some n => .ok (n, { m with stk := m.stk.dropLast })
def pushM (b : Bs) (m : PM) : RM Unit :=
  if b.length > 520 then .error 120 else if m.stk.length + m.alt.length = 100 then .error 121 else .ok ((), { m with stk := m.stk ++ [b] })
def verifyM (m : PM) : RM Unit := bindM (popM m) fun b m => if trueB b then okM () m else .error 132
def countM (n : Nat) (m : PM) : RM Unit := if m.many + n > 100 then .error 134 else .ok ((), { m with many := m.many + n })
def doesM (m : PM) : Bool := m.br.all (fun x => decide (x = 2))
def elseN (x : Nat) : Nat := if x = 2 then 1 else if x = 1 then 2 else x
def flowM (c : UInt8) (m : PM) : RM Bool :=
  if c = 99 ∨ c = 100 then
    if doesM m then bindM (popM m) fun b m => .ok (true, { m with br := m.br ++ [if trueB b = decide (c = 99) then 2 else 1] })
    else .ok (true, { m with br := m.br ++ [0] })
  else if c = 103 then
    match m.br.getLast? with
    | none => .error 131
    | some x => .ok (true, { m with br := m.br.dropLast ++ [elseN x] })
  else if c = 104 then
    if m.br = [] then .error 131 else .ok (true, { m with br := m.br.dropLast })
  else .ok (false, m)
/-- so many numbers; the last one was the top -/
def takeNums : Nat → PM → RM (List Int)
  | 0, m => okM [] m
  | n + 1, m => bindM (numM m) fun x m => bindM (takeNums n m) fun l m => okM (l ++ [x]) m
def outN (c : UInt8) (l : List Int) : Option Int :=
  if isOne c then (if mayN (l.getD 0 0) then onesN c (l.getD 0 0) else none)
  else if isTwo c then (if mayN (l.getD 0 0) && mayN (l.getD 1 0) then twosN c (l.getD 0 0) (l.getD 1 0) else none)
  else some (flagN (decide (l.getD 1 0 ≤ l.getD 0 0 ∧ l.getD 0 0 < l.getD 2 0)))
def numbersM (c : UInt8) (m : PM) : RM Unit :=
  bindM (takeNums (arityN c) m) fun l m =>
    match outN c l with
    | none => .error 110
    | some n => if n ≤ -549755813888 ∨ 549755813888 ≤ n then .error 110 else pushM (numB n) m
def severalM (n : Nat) (m : PM) : RM (List Bs) := if m.stk.length < n then .error 120 else .ok (lastN m.stk n, { m with stk := butN m.stk n })
def upToM (most : Nat) (m : PM) : RM Nat := bindM (numM m) fun n m => if n < 0 ∨ (most : Int) < n then .error 135 else okM n.toNat m
section
variable (H : Bs → Bs)
def isSig (key sig dig : Bs) : Bool := decide (key.length = 32 ∧ sig.length = 64 ∧ H (sig.take 32) = key ∧ H (sig.take 32 ++ dig) = sig.drop 32)
/-- the signatures that are left -/
def matchR (dig : Bs) : List Bs → List Bs → List Bs
  | [], s => s
  | _ :: ks, [] => matchR dig ks []
  | k :: ks, s :: r => if isSig H k s dig then matchR dig ks r else matchR dig ks (s :: r)
def matchB (dig : Bs) (keys sigs : List Bs) : Bool := (matchR H dig keys sigs).isEmpty
def multiM (dig : Bs) (m : PM) : RM Unit :=
  bindM (upToM 20 m) fun n m =>
  bindM (countM n m) fun _ m =>
  bindM (severalM n m) fun keys m =>
  bindM (upToM n m) fun k m =>
  bindM (severalM k m) fun sigs m =>
  bindM (popM m) fun b m => if b.length > 0 then .error 132 else pushM (flagB (matchB H dig keys sigs)) m
def hashOf (c : UInt8) (b : Bs) : Bs := if c = 168 then H b else if c = 170 then H (H b) else (H (H b)).take 20
def hashM (c : UInt8) (m : PM) : RM Unit := bindM (popM m) fun b m => pushM (hashOf H c b) m
def otherM (dig : Bs) (c : UInt8) (m : PM) : RM Unit :=
  if c = 97 then okM () m
  else if c = 105 then verifyM m
  else if c = 106 then .error 133
  else if c = 135 ∨ c = 136 then bindM (popM m) fun b m => bindM (popM m) fun a m => pushM (flagB (decide (a = b))) m
  else if c = 168 ∨ c = 169 ∨ c = 170 then hashM H c m
  else if c = 172 ∨ c = 173 then bindM (popM m) fun key m => bindM (popM m) fun sig m => pushM (flagB (isSig H key sig dig)) m
  else if c = 174 ∨ c = 175 then multiM H dig m
  else .error 130
def verifiedB (c : UInt8) : Bool := c = 136 || c = 157 || c = 173 || c = 175
def stackM (c : UInt8) (m : PM) : RM Unit :=
  match stackDo c m.stk m.alt with
  | .error e => .error e
  | .ok (s, o) => .ok ((), { m with stk := s, alt := o })
def doneM (dig : Bs) (o : OpS) (m : PM) : RM Unit :=
  match valueB o with
  | some b => pushM b m
  | none => if (leastN o.code).isSome then stackM o.code m else if arityN o.code > 0 then numbersM o.code m else otherM H dig o.code m
def doM (dig : Bs) (o : OpS) (m : PM) : RM Unit := bindM (doneM H dig o m) fun _ m => if verifiedB o.code then verifyM m else okM () m
def countedM (o : OpS) (m : PM) : RM Unit := if o.data.length > 520 then .error 134 else if (valueB o).isNone then countM 1 m else okM () m
def stepM (dig : Bs) (o : OpS) (m : PM) : RM Unit :=
  bindM (countedM o m) fun _ m => bindM (flowM o.code m) fun is m => if is || !doesM m then okM () m else doM H dig o m
def stepsM (dig : Bs) : List OpS → PM → RM Unit
  | [], m => okM () m
  | o :: l, m => bindM (stepM H dig o m) fun _ m => stepsM dig l m
def runM (dig : Bs) (l : List OpS) (m : PM) : RM Unit := bindM (stepsM H dig l m) fun _ m => if m.br = [] then okM () m else .error 131
def newB (l : List Bs) : Except Int (List Bs) := if l.any (fun b => decide (b.length > 520)) then .error 120 else if l.length > 100 then .error 121 else .ok l
def runB (stk : List Bs) (s dig : Bs) : Except Int (List Bs) :=
  if s.length > 520 then .error 134
  else match splitB s with
  | none => .error 100
  | some l => match newB stk with
    | .error e => .error e
    | .ok own => match runM H dig l ⟨own, [], [], 0⟩ with
      | .error e => .error e
      | .ok (_, m) => newB m.stk
/-- how a script's stack ends -/
def topB (s : List Bs) : Int := match s.getLast? with | none => 120 | some b => if trueB b then 0 else 132
def endsB (unlock lock dig : Bs) : Int :=
  if pushesB unlock = false then 132
  else match runB H [] unlock dig with
  | .error e => e
  | .ok s => match runB H s lock dig with
    | .error e => e
    | .ok s => topB s
end
end Go.Proofs.YtmlgieclkedomaaGreat

namespace Go.Proofs.YtmlgieclkedomaaGreat
open Go Go.RowKit

theorem Nx.cell0 {I0 I : Imm} {w0 w : World} {L : List Item} (h : Nx [] I0 w0 I L w) {b j : Nat} {v : Value} (hc : w0.cell? ⟨b, j, none⟩ = some v) : w.cell? ⟨b, j, none⟩ = some v := by
  have hb : b < w0.heap.size := by
    unfold World.cell? at hc
    split at hc
    · rename_i h; exact (Array.getElem?_eq_some_iff.1 h).1
    · cases hc
  rw [← hc]
  unfold World.cell?
  rw [show w.heap[(⟨b, j, none⟩ : Addr).block]? = w0.heap[(⟨b, j, none⟩ : Addr).block]? from h.ev.block b hb (by simp [blocks])]
theorem Src.nx {I0 I : Imm} {w0 w : World} {L : List Item} (h : Nx [] I0 w0 I L w) {ad : Option Addr} {xs : List Value} (k : Src w0 ad xs) : Src w ad xs := by
  rcases k with k | ⟨b, j, rfl, hc⟩
  · exact .inl k
  · exact .inr ⟨b, j, rfl, fun i u hu => h.cell0 (hc i u hu)⟩
theorem Src.drop {w : World} {ad : Option Addr} {xs : List Value} (h : Src w ad xs) (k : Nat) : Src w (ad.map (·.add k)) (xs.drop k) := by
  rcases h with ⟨_, rfl⟩ | ⟨b, j, rfl, hc⟩
  · exact .inl ⟨trivial, by simp⟩
  · refine .inr ⟨b, j + k, ?_, fun i u hu => ?_⟩
    · simp [Addr.add_lit]
    · rw [Nat.add_assoc]; exact hc (k + i) u (by simpa using hu)
theorem Src.take {w : World} {ad : Option Addr} {xs : List Value} (h : Src w ad xs) (k : Nat) : Src w ad (xs.take k) := by
  rcases h with ⟨_, rfl⟩ | ⟨b, j, rfl, hc⟩
  · exact .inl ⟨trivial, by simp⟩
  · exact .inr ⟨b, j, rfl, fun i u hu => hc i u (by rw [List.getElem?_take] at hu; split at hu; exact hu; cases hu)⟩
/-- a slice whose elements are these, as memory is now -/
structure LsAt {α : Type} [Rep α] (I : Imm) (w : World) (v : Value) (l : List α) : Prop where
  ex : ∃ ad c xs, v = .slice ad l.length c ∧ l.length ≤ c ∧ c ≤ maxLen ∧ (ad = none → c = 0) ∧ Src w ad xs ∧ Reps I l xs
theorem RepsRd.ls {α : Type} [Rep α] {I : Imm} {w : World} {v : Value} {l : List α} (h : RepsRd I v l) (hI : I.Holds w) : LsAt I w v l := by
  obtain ⟨xs, hr, hx⟩ := h
  obtain ⟨ad, c, rfl, h1, h2, h3⟩ := hr.ex
  refine ⟨ad, c, xs, rfl, h1, h2, fun e => ?_, hr.src hI, hx⟩
  rcases h3 with ⟨_, _, h, _⟩ | ⟨b, j, e', _⟩
  · exact h
  · rw [e] at e'; cases e'
theorem Nx.ls {α : Type} [Rep α] {L0 : List Item} {I0 I : Imm} {w0 w : World} {L : List Item} (h : Nx L0 I0 w0 I L w) {i sz n c : Nat} {e : TypeId} {ad : Option Addr} {xs : List Value} (hi : L[i]? = some (.row sz e (.slice ad n c) n xs)) {l : List α} (hx : Reps I l xs) (hn : l.length = n) :
    LsAt I w (.slice ad n c) l := by
  have hr : OwnsRow w e sz (.slice ad n c) n xs := h.get hi
  subst hn
  rcases hr.2 with ⟨e, h0⟩ | ⟨g, cap, cur, e, _, hc, hm, _, _⟩
  · simp only [Value.slice.injEq] at e
    obtain ⟨rfl, _, rfl⟩ := e
    exact ⟨none, 0, xs, rfl, by omega, by decide, fun _ => rfl, h.srcRow hi, hx⟩
  · simp only [Value.slice.injEq, true_and] at e
    obtain ⟨rfl, rfl⟩ := e
    exact ⟨_, _, xs, rfl, hc, hm, by simp, h.srcRow hi, hx⟩

theorem Rd.ofBlk {J : Imm} {b n : Nat} {xs : List Value} (h : J.At b 0 xs) (hm : n ≤ 1000000) : Rd J (.slice (some ⟨b, 0, none⟩) n n) n xs := ⟨_, _, rfl, Nat.le_refl _, by unfold maxLen; omega, .inr ⟨b, 0, rfl, h⟩⟩
/-! ### slices of slices -/
def adrop (ad : Option Addr) (l m s : Nat) : Option Addr := if m = l then ad else ad.map (·.add (l * s))
theorem Src.adrop {w : World} {ad : Option Addr} {xs : List Value} (h : Src w ad xs) (l m s h' : Nat) (hm : h' ≤ m) (hl : l ≤ h') : Src w (adrop ad l m s) ((xs.drop (l * s)).take ((h' - l) * s)) := by
  unfold Go.Proofs.YtmlgieclkedomaaGreat.adrop
  split
  · rename_i e
    have : h' - l = 0 := by omega
    rw [this, Nat.zero_mul, List.take_zero]
    rcases h with ⟨_, _⟩ | ⟨b, j, rfl, _⟩
    · exact .inl ⟨trivial, rfl⟩
    · exact .inr ⟨b, j, rfl, by simp⟩
  · exact (h.drop _).take _
theorem adrop_zero (ad : Option Addr) (m s : Nat) (h : ad = none ∨ ∃ b j, ad = some ⟨b, j, none⟩) : adrop ad 0 m s = ad := by
  unfold adrop
  split
  · rfl
  · rcases h with rfl | ⟨b, j, rfl⟩ <;> simp [Addr.add_lit]
theorem Rd.sub {I : Imm} {ad : Option Addr} {n c s : Nat} {xs : List Value} (h : Rd I (.slice ad n c) n xs) (hs : xs.length = n * s) (hs0 : 0 < s) (a b m : Nat) (h1 : a ≤ b) (h2 : b ≤ n) (h3 : b ≤ m) (h4 : m ≤ c) :
    Rd I (.slice (adrop ad a m s) (b - a) (m - a)) (b - a) ((xs.drop (a * s)).take ((b - a) * s)) := by
  obtain ⟨ad0, c0, e, k1, k2, k3⟩ := h.ex
  cases e
  refine ⟨_, _, rfl, by omega, by omega, ?_⟩
  rcases k3 with ⟨_, rfl, rfl, rfl⟩ | ⟨g, j, rfl, hx⟩
  · refine .inl ⟨trivial, by omega, by omega, by simp⟩
  · unfold adrop
    split
    · refine .inr ⟨g, j, rfl, ?_⟩
      have : b - a = 0 := by omega
      rw [this, Nat.zero_mul, List.take_zero]
      obtain ⟨cur, e, fr, hb, _⟩ := hx
      exact ⟨cur, e, fr, hb, by simp⟩
    · exact .inr ⟨g, j + a * s, by simp [Addr.add_lit], (hx.drop _).take _⟩
theorem RdB.sub {I : Imm} {ad : Option Addr} {n c : Nat} {l : Bs} (h : RdB I (.slice ad n c) l) (hn : l.length = n) (a b m : Nat) (h1 : a ≤ b) (h2 : b ≤ n) (h3 : b ≤ m) (h4 : m ≤ c) : RdB I (.slice (adrop ad a m 1) (b - a) (m - a)) ((l.drop a).take (b - a)) := by
  subst hn
  have := Rd.sub (s := 1) h (by simp) (by decide) a b m h1 h2 h3 h4
  have hl : ((l.drop a).take (b - a)).length = b - a := by rw [List.length_take, List.length_drop]; omega
  unfold RdB
  rw [hl]
  simpa [bvs] using this

section
variable {P : Program} {ρ : Operand → Value} {o : Oper} {w : World}
/-- a bound that may stand, as a number -/
def bnd (v : Option Value) (d x : Nat) : Prop := match v with | none => x = d | some (.int _ i) => i = x | _ => False
theorem ex_slice (T : TypeId) (x : Operand) (lo hi mx : Option Operand) (ho : o.op = .slice T x lo hi mx) {e sz bytes : Nat} [hT : SliceT P T e sz bytes] (ad : Option Addr) (n c : Nat) (hx : ρ x = .slice ad n c)
    (a b m : Nat) (h1 : bnd (lo.map ρ) 0 a) (h2 : bnd (hi.map ρ) n b) (h3 : bnd (mx.map ρ) c m) (h4 : a ≤ b) (h5 : b ≤ m) (h6 : m ≤ c) (h9 : mx.isSome → hi.isSome) :
    (execOp ρ o).run P w = .ok (.value (.slice (adrop ad a m sz) (b - a) (m - a))) w := by
  obtain ⟨hsz, inf, z, hinfo, hsize, hz, hzs⟩ := sliceInfo_parts hT.i
  have hel : P.elem T = e := by simp [Program.elem, hT.u]
  have ht : P.underlying T = some (.slice (P.elem T)) := by rw [hel]; exact hT.u
  have hs : (sizeOf (P.elem T)).run P w = .ok sz w := by rw [hel]; simp [sizeOf, typeInfo, hinfo, hsize]
  have hb : (Instr.sliceBounds true n c (lo.map ρ) (hi.map ρ) (mx.map ρ)).run P w = .ok (a, b, m) w := by
    cases hlo : lo.map ρ with
    | none =>
      rw [hlo] at h1
      cases hhi : hi.map ρ with
      | none =>
        rw [hhi] at h2
        cases hmx : mx.map ρ with
        | none => rw [hmx] at h3; simp only [bnd] at h1 h2 h3; subst h1 h2 h3; simp [Instr.sliceBounds]
        | some mv => exfalso; have := h9 (by cases mx <;> simp_all); cases hi <;> simp_all
      | some hv =>
        rw [hhi] at h2
        cases hmx : mx.map ρ with
        | none =>
          rw [hmx] at h3
          cases hv <;> simp only [bnd] at h1 h2 h3
          subst h1 h2 h3
          simp [Instr.sliceBounds, run_sliceBound, h5]
        | some mv =>
          rw [hmx] at h3
          cases hv <;> cases mv <;> simp only [bnd] at h1 h2 h3
          subst h1 h2 h3
          simp [Instr.sliceBounds, run_sliceBound, h5, h6]
    | some lv =>
      rw [hlo] at h1
      cases hhi : hi.map ρ with
      | none =>
        rw [hhi] at h2
        cases hmx : mx.map ρ with
        | none => 
          rw [hmx] at h3
          cases lv <;> simp only [bnd] at h1 h2 h3
          subst h1 h2 h3
          simp [Instr.sliceBounds, run_sliceBound, h4]
        | some mv => exfalso; have := h9 (by cases mx <;> simp_all); cases hi <;> simp_all
      | some hv =>
        rw [hhi] at h2
        cases hmx : mx.map ρ with
        | none =>
          rw [hmx] at h3
          cases hv <;> cases lv <;> simp only [bnd] at h1 h2 h3
          subst h1 h2 h3
          simp [Instr.sliceBounds, run_sliceBound, h5, h4]
        | some mv =>
          rw [hmx] at h3
          cases hv <;> cases mv <;> cases lv <;> simp only [bnd] at h1 h2 h3
          subst h1 h2 h3
          simp [Instr.sliceBounds, run_sliceBound, h5, h6, h4]
  simp only [execOp, ho, hx, Sem.run_bind, run_sliceAt_slice w T _ _ _ _ ht, run_slice_any w T ad n c ht, hb, Result.andThen, hs, sliced, adrop, Sem.run_pure]
end
section
variable {P : Program} {ops : Array Oper} {Q : Exit → Act → World → Prop} {a : Act} {w : World} {rest : List Oper} {o : Oper}
theorem sL_slice (hg : Region.wanted o (yielded ops a.tmps) = true) (T : TypeId) (x : Operand) (lo hi mx : Option Operand) (ho : o.op = .slice T x lo hi mx) {e sz bytes : Nat} [hT : SliceT P T e sz bytes] (ad : Option Addr) (n c : Nat) (hx : a.eval x = .slice ad n c)
    (l h m : Nat) (h1 : bnd (lo.map a.eval) 0 l) (h2 : bnd (hi.map a.eval) n h) (h3 : bnd (mx.map a.eval) c m) (h4 : l ≤ h) (h5 : h ≤ m) (h6 : m ≤ c) (h9 : mx.isSome → hi.isSome)
    (k : wpList P ops Q rest (a.put o.dst (.slice (adrop ad l m sz) (h - l) (m - l))) w) : wpList P ops Q (o :: rest) a w :=
  wpL_of hg (ex_slice T x lo hi mx ho ad n c hx l h m h1 h2 h3 h4 h5 h6 h9) (fun _ _ => Oper.semAt_eq _ _ _ (by simp [ho])) (fun _ => by simp [Oper.about, ho]) k
/-- from the beginning -/
theorem sL_slice0 (hg : Region.wanted o (yielded ops a.tmps) = true) (T : TypeId) (x : Operand) (hi mx : Option Operand) (ho : o.op = .slice T x none hi mx) {e sz bytes : Nat} [hT : SliceT P T e sz bytes] (ad : Option Addr) (n c : Nat) (hx : a.eval x = .slice ad n c) (hadr : ad = none ∨ ∃ b j, ad = some ⟨b, j, none⟩)
    (h m : Nat) (h2 : bnd (hi.map a.eval) n h) (h3 : bnd (mx.map a.eval) c m) (h5 : h ≤ m) (h6 : m ≤ c) (h9 : mx.isSome → hi.isSome)
    (k : wpList P ops Q rest (a.put o.dst (.slice ad h m)) w) : wpList P ops Q (o :: rest) a w :=
  sL_slice hg T x none hi mx ho ad n c hx 0 h m rfl h2 h3 (by omega) h5 h6 h9 (by rw [adrop_zero ad m sz hadr]; exact k)
end
section
variable {F : Fence} {nn : Nat} {P : Program} {ops : Array Oper} {Q : Exit → Act → World → Prop} {a : Act} {w : World} {rest : List Oper} {o : Oper}
theorem sN_slice (hg : Region.wanted o (yielded ops a.tmps) = true) (T : TypeId) (x : Operand) (lo hi mx : Option Operand) (ho : o.op = .slice T x lo hi mx) {e sz bytes : Nat} [hT : SliceT P T e sz bytes] (ad : Option Addr) (n c : Nat) (hx : a.eval x = .slice ad n c)
    (l h m : Nat) (h1 : bnd (lo.map a.eval) 0 l) (h2 : bnd (hi.map a.eval) n h) (h3 : bnd (mx.map a.eval) c m) (h4 : l ≤ h) (h5 : h ≤ m) (h6 : m ≤ c) (h9 : mx.isSome → hi.isSome)
    (k : wpListIn F nn P ops Q rest (a.put o.dst (.slice (adrop ad l m sz) (h - l) (m - l))) w) : wpListIn F nn P ops Q (o :: rest) a w :=
  wpN_of hg (ex_slice T x lo hi mx ho ad n c hx l h m h1 h2 h3 h4 h5 h6 h9) (fun _ _ => Oper.semAt_eq _ _ _ (by simp [ho])) (fun _ => by simp [Oper.about, ho]) k
end
theorem Nx.adr {L0 : List Item} {I0 I : Imm} {w0 w : World} {L : List Item} (h : Nx L0 I0 w0 I L w) {i sz m c : Nat} {e : TypeId} {ad : Option Addr} {xs : List Value} (hi : L[i]? = some (.row sz e (.slice ad m c) m xs)) : ad = none ∨ ∃ b j, ad = some ⟨b, j, none⟩ := by
  obtain ⟨ad', c', e, h1, h2, h3, h4⟩ := h.rowVal hi
  cases e
  cases ad with
  | none => exact .inl rfl
  | some a => obtain ⟨g, rfl⟩ := h4 a rfl; exact .inr ⟨g, 0, rfl⟩
theorem Nx.nilCap {L0 : List Item} {I0 I : Imm} {w0 w : World} {L : List Item} (h : Nx L0 I0 w0 I L w) {i sz m c : Nat} {e : TypeId} {xs : List Value} (hi : L[i]? = some (.row sz e (.slice none m c) m xs)) : m = 0 ∧ c = 0 := by
  obtain ⟨ad', c', e, h1, h2, h3, h4⟩ := h.rowVal hi
  cases e
  exact h3 rfl
theorem adrop_none {ad : Option Addr} {l m s : Nat} (h : adrop ad l m s = none) : ad = none := by
  unfold adrop at h
  split at h
  · exact h
  · simpa using h
theorem Nx.capOf {L0 : List Item} {I0 I : Imm} {w0 w : World} {L : List Item} (h : Nx L0 I0 w0 I L w) {i sz m c : Nat} {e : TypeId} {ad : Option Addr} {xs : List Value} (hi : L[i]? = some (.row sz e (.slice ad m c) m xs)) : m ≤ c ∧ c ≤ maxLen := by
  have hr : OwnsRow w e sz (.slice ad m c) m xs := h.get hi
  rcases hr.2 with ⟨e, h0⟩ | ⟨g, cap, cur, e, _, hc, hm, _, _⟩
  · simp only [Value.slice.injEq] at e
    obtain ⟨rfl, rfl, rfl⟩ := e
    exact ⟨by omega, by decide⟩
  · simp only [Value.slice.injEq, true_and] at e
    obtain ⟨rfl, rfl⟩ := e
    exact ⟨hc, hm⟩
end Go.Proofs.YtmlgieclkedomaaGreat

namespace Go.Proofs.YtmlgieclkedomaaGreat
open Go Go.RowKit

instance : Rep (List UInt8) where
  sz := 1
  cells I a cs := ∃ ad c, cs = [.slice ad a.length c] ∧ RdB I (.slice ad a.length c) a
  len := by rintro I a cs ⟨ad, c, rfl, _⟩; rfl
  mono := by rintro I J a cs hle ⟨ad, c, e, h1⟩; exact ⟨ad, c, e, h1.mono hle⟩
  one := by
    rintro I a cs ⟨ad, c, rfl, _⟩ u hu
    simp at hu; subst hu; rfl
theorem RepsB.len {I : Imm} {l : List Bs} {xs : List Value} (h : Reps I l xs) : xs.length = l.length := by rw [Reps.len h]; exact Nat.mul_one _
theorem RepsB.at {I : Imm} {l : List Bs} {xs : List Value} (h : Reps I l xs) (k : Nat) (hk : k < l.length) : ∃ ad c, xs[k]? = some (.slice ad l[k].length c) ∧ RdB I (.slice ad l[k].length c) l[k] := by
  obtain ⟨c, ⟨ad, cap, e, h1⟩, _, h3⟩ := Reps.get k h hk
  refine ⟨ad, cap, ?_, h1⟩
  have := h3 0 (.slice ad l[k].length cap) (by rw [e]; rfl)
  simpa [Rep.sz] using this
theorem RepsB.one {I : Imm} {ad : Option Addr} {c : Nat} {b : Bs} (h : RdB I (.slice ad b.length c) b) : Reps I [b] [.slice ad b.length c] := Reps.single ⟨ad, c, rfl, h⟩
theorem RepsB.take {I : Imm} {l : List Bs} {xs : List Value} (h : Reps I l xs) (n : Nat) : Reps I (l.take n) (xs.take n) := by
  have := Reps.take n h; simpa [Rep.sz] using this
theorem RepsB.drop {I : Imm} {l : List Bs} {xs : List Value} (h : Reps I l xs) (n : Nat) : Reps I (l.drop n) (xs.drop n) := by
  have := Reps.drop n h; simpa [Rep.sz] using this

theorem deep_spec {w : World} {b j : Nat} {ad : Option Addr} {n c : Nat} (hc : w.cell? ⟨b, j, none⟩ = some (.slice ad n c)) :
    Calls Tryz.prog 72 #[.pointer (some ⟨b, j, none⟩)] w fun e w' => e = .returned (.int .i64 n) ∧ w = w' := by
  go_enter Tryz.func72, Tryz.ntmps72
  go_wp2_with ((with_reducible refine gL_load ?_); refine sL_loadC rfl _ _ rfl _ _ rfl _ hc ?_)
  go_ret
  exact ⟨rfl, rfl⟩

theorem put12_spec {I : Imm} {w : World} {b j : Nat} {cs : List Value} {T : TypeId} {ad : Option Addr} {n c : Nat} {xs : List Value} (hin : Init I [.blk b cs T, .row 1 22 (.slice ad n c) n xs] w) (hj : cs[j]? = some (.slice ad n c))
    {v2 : Value} {m : Nat} {news : List Value} (h2 : Rd I v2 m news) (hl : news.length = m) (h1 : ∀ u ∈ news, u.oneCell' = true) (hlen : n + m ≤ 1000000) :
    Calls Tryz.prog 48 #[.pointer (some ⟨b, j, none⟩), v2] w fun e w' => ∃ v ad' c', e = .returned v ∧ Nx [.blk b cs T, .row 1 22 (.slice ad n c) n xs] I w I [.blk b (cs.set j (.slice ad' (n + m) c')) T, .row 1 22 (.slice ad' (n + m) c') (n + m) (xs ++ news)] w' := by
  have hS := hin.nx
  obtain ⟨a2, c2, rfl, k1, k2, -⟩ := h2.ex
  have hjl : j < cs.length := (List.getElem?_eq_some_iff.1 hj).1
  go_enter Tryz.func48, Tryz.ntmps48
  go_wp2_with (first | (refine sL_load hS rfl _ _ rfl _ _ rfl 0 _ _ rfl _ hj ?_) | ((with_reducible refine gL_app ?_); refine sL_append hS rfl _ _ _ rfl 1 _ _ _ rfl rfl _ _ _ _ rfl (by omega) (h2.src hS.hI) h1 (by omega) ?_; clear hS; intro ad' c' w' hS hnil hown; simp only [List.set_cons_zero, List.set_cons_succ] at hS) | (refine sL_store hS rfl _ _ _ rfl _ _ rfl 0 _ _ rfl (.slice ad' (n + m) c') rfl rfl hjl ?_; clear hS; intro w' hS; simp only [List.set_cons_zero] at hS))
  exact bodyPost_end (results_none rfl _ _ _) rfl ⟨⟨_, rfl⟩, ad', c', hS⟩

/-- slices.Clone of elements -/
theorem Clone12_spec {I : Imm} {w : World} (hI : I.Holds w) {ad : Option Addr} {n cap : Nat} {xs : List Value} (h : Src w ad xs) (h0 : ad = none → cap = 0) (hcap : n ≤ cap) (hl : xs.length = n) (h1 : ∀ u ∈ xs, u.oneCell' = true) (hlen : n ≤ 1000000) :
    Calls Tryz.prog 128 #[.slice ad n cap] w fun e w' => ∃ ad c, e = .returned (.slice ad n c) ∧ Nx [] I w I [.row 1 22 (.slice ad n c) n xs] w' := by
  have hS := Nx.nil hI
  cases ad with
  | none =>
    obtain rfl := h0 rfl
    obtain rfl : n = 0 := by omega
    obtain rfl : xs = [] := List.eq_nil_of_length_eq_zero hl
    have hS := hS.nilRow 1 22
    go_enter Tryz.func128, Tryz.ntmps128
    go_wp2_with ((with_reducible refine gL_bin ?_); first | (refine sL_eqnil rfl _ _ _ _ rfl _ _ _ _ _ rfl rfl ?_) | (refine sL_neqnil rfl _ _ _ _ rfl _ _ _ _ _ rfl rfl ?_))
    go_ret
    exact ⟨_, _, rfl, hS⟩
  | some a =>
    go_enter Tryz.func128, Tryz.ntmps128
    go_wp2_with (first | ((with_reducible refine gL_bin ?_); first | (refine sL_eqnil rfl _ _ _ _ rfl _ _ _ _ _ rfl rfl ?_) | (refine sL_neqnil rfl _ _ _ _ rfl _ _ _ _ _ rfl rfl ?_)) | (((with_reducible refine gL_lit ?_); first | (refine sL_lit0 hS rfl _ rfl ?_; clear hS; intro b w' hb hS) | (refine sL_lit1 hS rfl _ _ rfl _ (by go_simp; first | exact rfl | exact ⟨rfl, rfl⟩) rfl ?_; clear hS; intro b w' hb hS) | (refine sL_lit2 hS rfl _ _ _ rfl _ _ (by go_simp; first | exact rfl | exact ⟨rfl, rfl⟩) (by go_simp; first | exact rfl | exact ⟨rfl, rfl⟩) rfl rfl ?_; clear hS; intro b w' hb hS) | (refine sL_lit12 hS rfl _ _ rfl _ _ (by go_simp; first | exact rfl | exact ⟨rfl, rfl⟩) ?_; clear hS; intro b w' hb hS)); replace hS := hS.litRow 1 0 rfl (by decide)) | ((with_reducible refine gL_app ?_); refine sL_append hS rfl _ _ _ rfl 0 _ _ _ rfl rfl _ _ _ _ rfl (by omega) (Src.nx hS h) h1 (by omega) ?_; clear hS; intro ad' c' w' hS hnil hown; simp only [List.set_cons_zero, List.set_cons_succ] at hS))
    go_ret
    simp only [Nat.zero_add, List.nil_append] at hS
    exact ⟨_, _, rfl, hS⟩

/-- the last k elements, and what is left -/
theorem cut_spec {I : Imm} {w : World} {b j : Nat} {cs : List Value} {T : TypeId} {ad : Option Addr} {n c : Nat} {xs : List Value} (hin : Init I [.blk b cs T, .row 1 22 (.slice ad n c) n xs] w) (hj : cs[j]? = some (.slice ad n c)) (h1 : ∀ u ∈ xs, u.oneCell' = true) (k : Nat) (hk : k ≤ n) (hlen : n ≤ 1000000) :
    Calls Tryz.prog 141 #[.pointer (some ⟨b, j, none⟩), .int .i64 k] w fun e w' => ∃ a2 c2, e = .returned (.slice a2 k c2) ∧ Nx [.blk b cs T, .row 1 22 (.slice ad n c) n xs] I w I [.row 1 22 (.slice a2 k c2) k (xs.drop (n - k)), .blk b (cs.set j (.slice ad (n - k) (n - k))) T, .row 1 22 (.slice ad (n - k) (n - k)) (n - k) (xs.take (n - k))] w' := by
  have hS := hin.nx
  have hjl : j < cs.length := (List.getElem?_eq_some_iff.1 hj).1
  obtain ⟨hc, hcm⟩ := hS.capOf (i := 1) rfl
  have hadr := hS.adr (i := 1) rfl
  have hxl : xs.length = n := by have := hS.rowVal (i := 1) rfl; obtain ⟨_, _, _, _, h, _⟩ := this; omega
  go_enter Tryz.func141, Tryz.ntmps141
  have hnil : ad = none → c = 0 := by rintro rfl; exact (hS.nilCap (i := 1) rfl).2
  go_wp2_with (first | (refine sL_load hS rfl _ _ rfl _ _ rfl 0 _ _ rfl _ hj ?_) | ((with_reducible refine gL_slice ?_); refine sL_slice rfl _ _ _ _ _ rfl _ _ _ rfl (n - k) (n) (c) (by first | rfl | (show _ = _; omega) | (show _ = _; simp; done) | (show _ = _; simp; omega)) (by first | rfl | (show _ = _; omega) | (show _ = _; simp; done) | (show _ = _; simp; omega)) (by first | rfl | (show _ = _; omega) | (show _ = _; simp; done) | (show _ = _; simp; omega)) (by omega) (by omega) (by omega) (by simp) ?_; rw [show (n) - (n - k) = k by omega, show (c) - (n - k) = c - (n - k) by omega]) | (go_at_call 128; refine (Clone12_spec hS.hI ((hS.srcRow (i := 1) rfl).adrop (n - k) c 1 n hc (by omega)) (fun e => by have := hnil (adrop_none e); omega) (by omega) (by simp; omega) (fun u hu => h1 u (List.mem_of_mem_drop (List.mem_of_mem_take hu))) (by omega)).mono ?_; rintro e w' ⟨a2, c2, rfl, hn⟩; replace hS := hS.pure1 hn; clear hn; refine Stop.of ?_))
  refine Stop.to ?_
  go_wp2_with (first | (refine sL_load hS rfl _ _ rfl _ _ rfl 1 _ _ rfl _ hj ?_) | ((with_reducible refine gL_slice ?_); refine sL_slice0 rfl _ _ _ _ rfl _ _ _ rfl (hadr) (n - k) (n - k) (by first | rfl | (show _ = _; omega) | (show _ = _; simp; done) | (show _ = _; simp; omega)) (by first | rfl | (show _ = _; omega) | (show _ = _; simp; done) | (show _ = _; simp; omega)) (by omega) (by omega) (by simp) ?_) | (refine sL_store hS rfl _ _ _ rfl _ _ rfl 1 _ _ rfl (.slice ad (n - k) (n - k)) rfl rfl hjl ?_; clear hS; intro w' hS; simp only [List.set_cons_zero, List.set_cons_succ] at hS))
  go_ret
  have hS2 := hS.limit (i := 2) rfl (n - k) (n - k) (by omega) (by omega) (by omega)
  simp only [List.set_cons_zero, List.set_cons_succ] at hS2
  refine ⟨a2, c2, rfl, ?_⟩
  have e1 : List.take ((n - (n - k)) * 1) (List.drop ((n - k) * 1) xs) = List.drop (n - k) xs := by rw [Nat.mul_one, Nat.mul_one]; exact List.take_of_length_le (by simp; omega)
  rw [e1, Nat.mul_one] at hS2
  exact hS2
end Go.Proofs.YtmlgieclkedomaaGreat

namespace Go.Proofs.YtmlgieclkedomaaGreat
open Go Go.RowKit

set_option maxRecDepth 10000 in
theorem many_spec {I : Imm} {w : World} (hI : I.Holds w) {sp : Nat} {al ao : Option Addr} {nl no cl co : Nat} (h1 : w.cell? ⟨sp, 0, none⟩ = some (.slice al nl cl)) (h2 : w.cell? ⟨sp, 1, none⟩ = some (.slice ao no co)) (hl : nl + no ≤ 1000000) :
    Calls Tryz.prog 50 #[.pointer (some ⟨sp, 0, none⟩)] w fun e w' => e = .returned (.int .i64 ((nl + no : Nat) : Int)) ∧ Nx [] I w I [] w' := by
  have hS := Nx.nil hI
  go_enter Tryz.func50, Tryz.ntmps50
  go_wp2
  replace hS := hS.drew
  refine rg_start (fun _ => True) [] (by kernel_rfl) ?_
  -- P0 P1 P2 P4 P5 P6 S3 S7 P8 P9
  (refine rg_pure (v := ?v0u1) 0 rfl (by kernel_rfl) (fun _ _ _ h => h) rfl ?hy0u1 ?rest0u1; (case hy0u1 => (intro w; go_simp; try with_reducible rfl)); (try simp only [Act.put, List.setIfInBounds_toArray, List.set_cons_zero, List.set_cons_succ]))
  (refine rg_pure (v := ?v1u1) 1 rfl (by kernel_rfl) (fun _ _ _ h => h) rfl ?hy1u1 ?rest1u1; (case hy1u1 => (intro w; go_simp; try with_reducible rfl)); (try simp only [Act.put, List.setIfInBounds_toArray, List.set_cons_zero, List.set_cons_succ]))
  (refine rg_pure (v := ?v2u1) 2 rfl (by kernel_rfl) (fun _ _ _ h => h) rfl ?hy2u1 ?rest2u1; (case hy2u1 => (intro w; go_simp; try with_reducible rfl)); (try simp only [Act.put, List.setIfInBounds_toArray, List.set_cons_zero, List.set_cons_succ]))
  (refine rg_pure (v := ?v4u1) 4 rfl (by kernel_rfl) (fun _ _ _ h => h) rfl ?hy4u1 ?rest4u1; (case hy4u1 => (intro w; go_simp; try with_reducible rfl)); (try simp only [Act.put, List.setIfInBounds_toArray, List.set_cons_zero, List.set_cons_succ]))
  (refine rg_pure (v := ?v5u1) 5 rfl (by kernel_rfl) (fun _ _ _ h => h) rfl ?hy5u1 ?rest5u1; (case hy5u1 => (intro w; go_simp; try with_reducible rfl)); (try simp only [Act.put, List.setIfInBounds_toArray, List.set_cons_zero, List.set_cons_succ]))
  (refine rg_pure (v := ?v6u1) 6 rfl (by kernel_rfl) (fun _ _ _ h => h) rfl ?hy6u1 ?rest6u1; (case hy6u1 => (intro w; go_simp; try with_reducible rfl)); (try simp only [Act.put, List.setIfInBounds_toArray, List.set_cons_zero, List.set_cons_succ]))
  (refine rg_step 3 rfl (by kernel_rfl) (fun K' hK => ?_); go_wp2_with (first | (go_at_call 72; refine (deep_spec (hS.cell0 h1)).mono ?_; rintro e w' ⟨rfl, rfl⟩) | (go_at_call 72; refine (deep_spec (hS.cell0 h2)).mono ?_; rintro e w' ⟨rfl, rfl⟩)); (try with_reducible refine rg_back ?_); refine hK.out _ _ (fun h => absurd h (by decide)) ?_; clear hK; clear K'; (try simp only [Act.put, List.setIfInBounds_toArray, List.set_cons_zero, List.set_cons_succ]))
  (refine rg_step 7 rfl (by kernel_rfl) (fun K' hK => ?_); go_wp2_with (first | (go_at_call 72; refine (deep_spec (hS.cell0 h1)).mono ?_; rintro e w' ⟨rfl, rfl⟩) | (go_at_call 72; refine (deep_spec (hS.cell0 h2)).mono ?_; rintro e w' ⟨rfl, rfl⟩)); (try with_reducible refine rg_back ?_); refine hK.out _ _ (fun h => absurd h (by decide)) ?_; clear hK; clear K'; (try simp only [Act.put, List.setIfInBounds_toArray, List.set_cons_zero, List.set_cons_succ]))
  (refine rg_pure (v := ?v8u1) 8 rfl (by kernel_rfl) (fun _ _ _ h => h) rfl ?hy8u1 ?rest8u1; (case hy8u1 => (intro w; go_simp; try with_reducible rfl)); (try simp only [Act.put, List.setIfInBounds_toArray, List.set_cons_zero, List.set_cons_succ]))
  (refine rg_pure (v := ?v9u1) 9 rfl (by kernel_rfl) (fun _ _ _ h => h) rfl ?hy9u1 ?rest9u1; (case hy9u1 => (intro w; go_simp; try with_reducible rfl)); (try simp only [Act.put, List.setIfInBounds_toArray, List.set_cons_zero, List.set_cons_succ]))
  refine rg_done (by kernel_rfl) ?_
  go_wp2
  go_ret
  refine ⟨ret_int' ?_, hS⟩
  rw [IntWalk.i64_in _ (by omega)]; simp

/-- a stack's items: the struct, the main list, the other one -/
@[reducible] def stkL (sp : Nat) (al ao : Option Addr) (nl cl no co : Nat) (xl xo : List Value) : List Item := [.blk sp [.slice al nl cl, .slice ao no co] 96, .row 1 22 (.slice al nl cl) nl xl, .row 1 22 (.slice ao no co) no xo]

theorem newB_long {l : List Bs} {b : Bs} (hm : b ∈ l) (hb : 520 < b.length) : newB l = .error 120 := by
  unfold newB
  rw [if_pos (List.any_eq_true.2 ⟨b, hm, by simpa using hb⟩)]
theorem newB_ok {l : List Bs} (h : ∀ b ∈ l, b.length ≤ 520) : newB l = if l.length > 100 then .error 121 else .ok l := by
  unfold newB
  rw [if_neg]
  intro hc
  obtain ⟨b, hm, hb⟩ := List.any_eq_true.1 hc
  have := h b hm
  simp at hb; omega

def NewPost (I : Imm) (w : World) (l : List Bs) (e : Ending) (w' : World) : Prop :=
  match newB l with
  | .error er => e = .returned (.tuple #[.pointer none, .int .i64 er]) ∧ ∃ J, Nx [] I w J [] w'
  | .ok _ => ∃ J sp al cl xl, e = .returned (.tuple #[.pointer (some ⟨sp, 0, none⟩), .int .i64 0]) ∧ Nx [] I w J (stkL sp al none l.length cl 0 0 xl []) w' ∧ Reps J l xl

set_option maxRecDepth 10000 in
set_option maxHeartbeats 1000000 in
theorem New_spec {I : Imm} {w : World} (hI : I.Holds w) {v : Value} {l : List Bs} (h : LsAt I w v l) (hlen : l.length ≤ 100000) :
    Calls Tryz.prog 15 #[v] w (NewPost I w l) := by
  obtain ⟨ad, c, xs0, rfl, k1, k2, k3, hsrc, hreps0⟩ := h.ex
  have hS := Nx.nil hI
  go_enter Tryz.func15, Tryz.ntmps15
  go_wp2_with ((with_reducible refine gL_box ?_); (refine sL_box hS rfl _ _ rfl _ (by go_simp; first | exact rfl | exact ⟨rfl, rfl⟩) ?_; clear hS; intro sp w' hsp hS))
  go_loopw [11] (fun v11 wr => ∃ k K a1 c1 xs, k ≤ l.length ∧ v11 = .int .i64 (k : Nat) ∧ I.Le K ∧ Reps K (l.take k) xs ∧ (∀ b ∈ l.take k, b.length ≤ 520) ∧ Nx [] I w K (stkL sp a1 none k c1 0 0 xs []) wr) (fun v11 _ => l.length - (intOf v11).toNat)
  case atStart => exact ⟨0, I, none, 0, [], by omega, rfl, .refl _, rfl, by simp, ((hS.nilRow 1 22).nilRow 1 22).perm (List.perm_append_comm (l₁ := [_, _]) (l₂ := [_]))⟩
  case round =>
    clear hS
    obtain ⟨k, K, a1, c1, xs, hk, rfl, hle, hreps, hshort, hS⟩ := hrel
    by_cases hlt : k < l.length
    · obtain ⟨ea, ec, hxk, hrd⟩ := RepsB.at hreps0 k hlt
      obtain ⟨x, hx⟩ : ∃ x, x = l[k] := ⟨_, rfl⟩
      have hmem : x ∈ l := by rw [hx]; exact List.getElem_mem hlt
      have hst : l.take (k + 1) = l.take k ++ [x] := by rw [List.take_succ_eq_append_getElem hlt, hx]
      rw [← hx] at hxk hrd
      have Hst := Lib.hid hst
      have Hreps := Lib.hid hreps
      clear hx hst hreps
      obtain ⟨b0, j0, rfl, hc0⟩ := hsrc.resolve_left (by rintro ⟨_, rfl⟩; simp at hxk)
      have hcell := hS.cell0 (hc0 k _ hxk)
      by_cases hlong : x.length ≤ 520
      · have hi : ((x.length : Nat) : Int) ≤ 520 := by omega
        go_wp2_with ((with_reducible refine gL_load ?_); refine sL_loadC rfl _ _ rfl _ _ rfl _ hcell ?_)
        replace hS := hS.drew
        refine rg_start (fun _ => True) [] (by kernel_rfl) ?_
        -- P0 P1 P2 P3 S4 S5 S6
        (refine rg_pure (v := ?v0u2) 0 rfl (by kernel_rfl) (fun _ _ _ h => h) rfl ?hy0u2 ?rest0u2; (case hy0u2 => (intro w; go_simp; try with_reducible rfl)); (try simp only [Act.put, List.setIfInBounds_toArray, List.set_cons_zero, List.set_cons_succ]))
        (refine rg_pure (v := ?v1u2) 1 rfl (by kernel_rfl) (fun _ _ _ h => h) rfl ?hy1u2 ?rest1u2; (case hy1u2 => (intro w; go_simp; try with_reducible rfl)); (try simp only [Act.put, List.setIfInBounds_toArray, List.set_cons_zero, List.set_cons_succ]))
        (refine rg_pure (v := ?v2u2) 2 rfl (by kernel_rfl) (fun _ _ _ h => h) rfl ?hy2u2 ?rest2u2; (case hy2u2 => (intro w; go_simp; try with_reducible rfl)); (try simp only [Act.put, List.setIfInBounds_toArray, List.set_cons_zero, List.set_cons_succ]))
        (refine rg_pure (v := ?v3u2) 3 rfl (by kernel_rfl) (fun _ _ _ h => h) rfl ?hy3u2 ?rest3u2; (case hy3u2 => (intro w; go_simp; try with_reducible rfl)); (try simp only [Act.put, List.setIfInBounds_toArray, List.set_cons_zero, List.set_cons_succ]))
        (refine rg_step 4 rfl (by kernel_rfl) (fun K' hK => ?_); go_wp2_with (first | (go_at_call 49; refine (Clone_spec hS.hI (hrd.mono hle) (by omega)).mono ?_; rintro e w' ⟨ca, cc, rfl, hn⟩; obtain ⟨K2, hS2, hle2, hrd2⟩ := hS.pureFreeze hn; clear hS hn; have hS := hS2; clear hS2) | (((with_reducible refine gL_lit ?_); first | (refine sL_lit0 hS rfl _ rfl ?_; clear hS; intro b w' hb hS) | (refine sL_lit1 hS rfl _ _ rfl _ (by go_simp; first | exact rfl | exact ⟨rfl, rfl⟩) rfl ?_; clear hS; intro b w' hb hS) | (refine sL_lit2 hS rfl _ _ _ rfl _ _ (by go_simp; first | exact rfl | exact ⟨rfl, rfl⟩) (by go_simp; first | exact rfl | exact ⟨rfl, rfl⟩) rfl rfl ?_; clear hS; intro b w' hb hS) | (refine sL_lit12 hS rfl _ _ rfl _ _ (by go_simp; first | exact rfl | exact ⟨rfl, rfl⟩) ?_; clear hS; intro b w' hb hS)); obtain ⟨K3, hS3, hle3, hat3⟩ := hS.freezeBlk hb; clear hS; have hS := hS3; clear hS3) | (go_at_call 48; refine (put12_spec (m := 1) (hS.toInit.left (L := [_, _])) rfl (Rd.ofBlk hat3 (by decide)) rfl (by simp [Value.oneCell']) (by omega)).mono ?_; rintro e w' ⟨_, pa, pc, rfl, hn⟩; replace hS := Nx.call (L1 := [_, _]) hS hn; clear hn; simp only [List.set_cons_zero, List.set_cons_succ, List.cons_append, List.nil_append] at hS)); (try with_reducible refine rg_back ?_); refine hK.out _ _ (fun h => absurd h (by decide)) ?_; clear hK; clear K'; (try simp only [Act.put, List.setIfInBounds_toArray, List.set_cons_zero, List.set_cons_succ]))
        (refine rg_step 5 rfl (by kernel_rfl) (fun K' hK => ?_); go_wp2_with (first | (go_at_call 49; refine (Clone_spec hS.hI (hrd.mono hle) (by omega)).mono ?_; rintro e w' ⟨ca, cc, rfl, hn⟩; obtain ⟨K2, hS2, hle2, hrd2⟩ := hS.pureFreeze hn; clear hS hn; have hS := hS2; clear hS2) | (((with_reducible refine gL_lit ?_); first | (refine sL_lit0 hS rfl _ rfl ?_; clear hS; intro b w' hb hS) | (refine sL_lit1 hS rfl _ _ rfl _ (by go_simp; first | exact rfl | exact ⟨rfl, rfl⟩) rfl ?_; clear hS; intro b w' hb hS) | (refine sL_lit2 hS rfl _ _ _ rfl _ _ (by go_simp; first | exact rfl | exact ⟨rfl, rfl⟩) (by go_simp; first | exact rfl | exact ⟨rfl, rfl⟩) rfl rfl ?_; clear hS; intro b w' hb hS) | (refine sL_lit12 hS rfl _ _ rfl _ _ (by go_simp; first | exact rfl | exact ⟨rfl, rfl⟩) ?_; clear hS; intro b w' hb hS)); obtain ⟨K3, hS3, hle3, hat3⟩ := hS.freezeBlk hb; clear hS; have hS := hS3; clear hS3) | (go_at_call 48; refine (put12_spec (m := 1) (hS.toInit.left (L := [_, _])) rfl (Rd.ofBlk hat3 (by decide)) rfl (by simp [Value.oneCell']) (by omega)).mono ?_; rintro e w' ⟨_, pa, pc, rfl, hn⟩; replace hS := Nx.call (L1 := [_, _]) hS hn; clear hn; simp only [List.set_cons_zero, List.set_cons_succ, List.cons_append, List.nil_append] at hS)); (try with_reducible refine rg_back ?_); refine hK.out _ _ (fun h => absurd h (by decide)) ?_; clear hK; clear K'; (try simp only [Act.put, List.setIfInBounds_toArray, List.set_cons_zero, List.set_cons_succ]))
        (refine rg_step 6 rfl (by kernel_rfl) (fun K' hK => ?_); go_wp2_with (first | (go_at_call 49; refine (Clone_spec hS.hI (hrd.mono hle) (by omega)).mono ?_; rintro e w' ⟨ca, cc, rfl, hn⟩; obtain ⟨K2, hS2, hle2, hrd2⟩ := hS.pureFreeze hn; clear hS hn; have hS := hS2; clear hS2) | (((with_reducible refine gL_lit ?_); first | (refine sL_lit0 hS rfl _ rfl ?_; clear hS; intro b w' hb hS) | (refine sL_lit1 hS rfl _ _ rfl _ (by go_simp; first | exact rfl | exact ⟨rfl, rfl⟩) rfl ?_; clear hS; intro b w' hb hS) | (refine sL_lit2 hS rfl _ _ _ rfl _ _ (by go_simp; first | exact rfl | exact ⟨rfl, rfl⟩) (by go_simp; first | exact rfl | exact ⟨rfl, rfl⟩) rfl rfl ?_; clear hS; intro b w' hb hS) | (refine sL_lit12 hS rfl _ _ rfl _ _ (by go_simp; first | exact rfl | exact ⟨rfl, rfl⟩) ?_; clear hS; intro b w' hb hS)); obtain ⟨K3, hS3, hle3, hat3⟩ := hS.freezeBlk hb; clear hS; have hS := hS3; clear hS3) | (go_at_call 48; refine (put12_spec (m := 1) (hS.toInit.left (L := [_, _])) rfl (Rd.ofBlk hat3 (by decide)) rfl (by simp [Value.oneCell']) (by omega)).mono ?_; rintro e w' ⟨_, pa, pc, rfl, hn⟩; replace hS := Nx.call (L1 := [_, _]) hS hn; clear hn; simp only [List.set_cons_zero, List.set_cons_succ, List.cons_append, List.nil_append] at hS)); (try with_reducible refine rg_back ?_); refine hK.out _ _ (fun h => absurd h (by decide)) ?_; clear hK; clear K'; (try simp only [Act.put, List.setIfInBounds_toArray, List.set_cons_zero, List.set_cons_succ]))
        refine rg_done (by kernel_rfl) ?_
        go_wp2
        go_roundw
        case rel =>
          refine ⟨k + 1, K3, pa, pc, xs ++ [.slice ca x.length cc], hlt, by simp, (hle.trans hle2).trans hle3, ?_, ?_, hS⟩
          · rw [Hst.out]; exact ((Hreps.out.mono hle2).mono hle3).append (RepsB.one (hrd2.mono hle3))
          · rw [Hst.out]; intro b hb; rcases List.mem_append.1 hb with hb | hb
            · exact hshort b hb
            · rw [List.mem_singleton.1 hb]; exact hlong
        case measure => simp [intOf]; omega
      · have hi : 520 < ((x.length : Nat) : Int) := by omega
        go_wp2_with ((with_reducible refine gL_load ?_); refine sL_loadC rfl _ _ rfl _ _ rfl _ hcell ?_)
        go_ret2
        show NewPost I w l _ _
        unfold NewPost
        rw [newB_long hmem (by omega)]
        exact ⟨rfl, K, hS.drop.drop.drop⟩
    · obtain rfl : k = l.length := by omega
      rw [List.take_length] at hreps hshort
      have Hreps := Lib.hid hreps
      have Hshort := Lib.hid hshort
      clear hreps hshort
      go_wp2_with (go_at_call 50; refine (many_spec hS.hI (hS.blkCell 0 rfl 0 rfl) (hS.blkCell 0 rfl 1 rfl) (by omega)).mono ?_; rintro e w' ⟨rfl, hn⟩; replace hS := hS.pure0 hn; clear hn)
      · go_ret2
        show NewPost I w l _ _
        unfold NewPost
        rw [newB_ok Hshort.out, if_pos (by omega)]
        exact ⟨rfl, K, hS.drop.drop.drop⟩
      · go_ret2
        show NewPost I w l _ _
        unfold NewPost
        rw [newB_ok Hshort.out, if_neg (by omega)]
        exact ⟨K, sp, a1, c1, xs, rfl, hS, Hreps.out⟩
end Go.Proofs.YtmlgieclkedomaaGreat

namespace Go.Proofs.YtmlgieclkedomaaGreat
open Go Go.RowKit

def noDefer (l : List Oper) : Bool := l.all fun o => match o.op with | .defer _ => false | _ => true
theorem noDefer_spec {l : List Oper} (h : noDefer l = true) {j : Nat} {o : Oper} (hj : l.toArray[j]? = some o) : ∀ c, o.op ≠ .defer c := by
  intro c e
  have hm : o ∈ l := List.mem_of_getElem? (by simpa using hj)
  have := List.all_eq_true.1 h o hm
  rw [e] at this
  cases this

section
variable {F : Fence} {n : Nat} {P : Program} {l : List Oper} {Q : Exit → Act → World → Prop} {S : World → Prop} {need : List Nat} {a : Act} {w : World} {fuel : Nat} {listed : Array Bool}

theorem YieldsIf.wpOpIn (hF : ∀ f, F.fn f) {i : Nat} {o : Oper} {v : Value} {a : Act} (hi : l.toArray[i]? = some o) (hd : ∀ c, o.op ≠ .defer c) (hy : YieldsIf P l.toArray S o v a)
    {K : Act → World → Prop} {w : World} (hS : S w) (h : K (a.put o.dst v) w) : Go.wpOpIn F n P l.toArray Q i K a w := by
  unfold Go.wpOpIn
  simp only [hi]
  rcases hy with ⟨hw, hv⟩ | ⟨hw, rfl⟩
  · simp only [hw, if_true, Oper.wpIn, Oper.semAt_eq _ _ _ hd, hv w hS, Oper.uponIn]; exact ⟨fun f _ => hF f, h⟩
  · simp only [hw, Bool.false_eq_true, if_false]; exact ⟨fun f _ => hF f, h⟩

theorem wpOpIn_putIf (hF : ∀ f, F.fn f) {j : Nat} {oi oj : Oper} {v : Value} (hj : l.toArray[j]? = some oj) (hd : ∀ c, oj.op ≠ .defer c) (hap : oi.apart l.toArray oj = true)
    (hsi : ∀ cs b, oi.op ≠ .select cs b) (hsj : ∀ cs b, oj.op ≠ .select cs b)
    (hQ : ∀ c a w, Q (.panic c) (a.put oi.dst v) w → Q (.panic c) a w) {K : Act → World → Prop} {a : Act} {w : World}
    (hy : YieldsIf P l.toArray S oi v a) (h : Go.wpOpIn F n P l.toArray Q j K (a.put oi.dst v) w) :
    Go.wpOpIn F n P l.toArray Q j (fun a' w' => YieldsIf P l.toArray S oi v a' ∧ K (a'.put oi.dst v) w') a w := by
  obtain ⟨h1, h2, h3⟩ := Oper.apart_spec hap
  have keep : ∀ (a : Act), YieldsIf P l.toArray S oi v a → ∀ u, YieldsIf P l.toArray S oi v (a.put oj.dst u) := fun a hy u =>
    hy.of_same (execOp_put oi hsi a oj.dst u h3) (wanted_put oi a oj.dst u h3)
  have keepD : ∀ d, YieldsIf P l.toArray S oi v { a with defers := d :: a.defers } := fun d => hy.of_same rfl rfl
  unfold Go.wpOpIn at *
  simp only [hj] at *
  rw [wanted_put oj a oi.dst v h1] at h
  split
  · rename_i hw
    simp only [hw, if_true] at h
    unfold Oper.wpIn at *
    refine ⟨fun f _ => hF f, ?_⟩
    have h := h.2
    rw [Oper.semAt_eq _ _ _ hd, execOp_put oj hsj a oi.dst v h1] at h
    rw [Oper.semAt_eq _ _ _ hd]
    generalize (execOp a.eval oj).run P w = r at *
    cases r with
    | ok x w' =>
      cases x <;> simp only [Oper.uponIn] at h ⊢
      case value u => exact ⟨keep a hy u, by rw [← Act.put_comm a v u h2]; exact h⟩
      case skip => exact ⟨keep a hy _, by rw [← Act.put_comm a v undef h2]; exact h⟩
      case defer d =>
        refine ⟨keep _ (keepD d) _, ?_⟩
        rw [← Act.put_comm _ v undef h2, ← Act.put_defers]
        exact h
      case enter f args =>
        refine ⟨h.1, CallsIn.mono h.2 fun e w'' he => ?_⟩
        cases e with
        | returned u => exact ⟨keep a hy u, by rw [← Act.put_comm a v u h2]; exact he⟩
        | panicked c => exact hQ _ _ _ he
        | outgrown => exact he
      case row row args => exact ⟨h.1, RowsIn.mono h.2 fun u w'' he => ⟨keep a hy u, by rw [← Act.put_comm a v u h2]; exact he⟩⟩
      case round l f tmps assign body =>
        refine ⟨h.1, RoundIn.mono h.2 fun e w'' he => ?_⟩
        cases e with
        | returned u => exact ⟨keep a hy u, by rw [← Act.put_comm a v u h2]; exact he⟩
        | panicked c => exact hQ _ _ _ he
        | outgrown => exact he
    | halt x w' =>
      cases x <;> simp only [Oper.uponIn] at h ⊢
      case panic u => exact hQ _ _ _ h
  · rename_i hw
    simp only [hw] at h
    exact ⟨fun f _ => hF f, keep a hy _, by rw [← Act.put_comm a v undef h2]; exact h.2⟩

def wpXN (F : Fence) (n : Nat) (P : Program) (l : List Oper) (Q : Exit → Act → World → Prop) (S : World → Prop) (need : List Nat) : Nat → Array Bool → Act → World → Prop
  | 0, listed, a, w => Region.ready .any l.toArray listed = [] ∧ Q .normal a w
  | fuel + 1, listed, a, w =>
    (Region.ready .any l.toArray listed = [] → Q .normal a w) ∧
    ∀ i ∈ Region.ready .any l.toArray listed, Go.wpOpIn F n P l.toArray Q i (fun a' w' => (need.contains i = true → S w') ∧ wpXN F n P l Q S need fuel (listed.setIfInBounds i true) a' w') a w

theorem wpXN_any : ∀ (fuel : Nat) (listed : Array Bool) (a : Act) (w : World), wpXN F n P l Q S need fuel listed a w → wpAnyIn F n P .any l.toArray Q fuel listed a w
  | 0, _, _, _, h => h
  | fuel + 1, _, _, _, h => ⟨h.1, fun i hi => wpOpIn_mono (fun a' w' h' => wpXN_any fuel _ a' w' h'.2) (h.2 i hi)⟩

theorem wpXN_take (hF : ∀ f, F.fn f) (hdf : noDefer l = true) {i : Nat} {oi : Oper} {v : Value} {T : World → Prop} (hi : l.toArray[i]? = some oi) (hs : Region.noSelect l.toArray = true)
    (hQ : ∀ c a w, Q (.panic c) (a.put oi.dst v) w → Q (.panic c) a w) (hTS : ∀ w, T w → need.contains i = true → S w) :
    ∀ (fuel : Nat) (listed : Array Bool) (a : Act) (w : World), (∀ j oj, l.toArray[j]? = some oj → j ≠ i → listed.getD j true = false → (∀ e ∈ oj.after, Region.binds .any e = true → e.on ≠ i) → ∀ w', (need.contains j = true → S w') → T w') → Region.free .any l.toArray listed i = true →
      i ∈ Region.ready .any l.toArray listed → YieldsIf P l.toArray T oi v a → T w →
      wpXN F n P l Q S need fuel (listed.setIfInBounds i true) (a.put oi.dst v) w → wpXN F n P l Q S need (fuel + 1) listed a w := by
  intro fuel
  induction fuel with
  | zero =>
    intro listed a w _ _ hr hy hT0 H
    refine ⟨fun h => (by rw [h] at hr; cases hr), fun j hj => ?_⟩
    by_cases hji : j = i
    · subst hji; exact YieldsIf.wpOpIn hF hi (noDefer_spec hdf hi) hy hT0 ⟨hTS w hT0, H⟩
    · have h1 := ready_mono hj hji
      rw [H.1] at h1; cases h1
  | succ fuel ih =>
    intro listed a w hT hf hr hy hT0 H
    refine ⟨fun h => (by rw [h] at hr; cases hr), fun j hj => ?_⟩
    by_cases hji : j = i
    · subst hji; exact YieldsIf.wpOpIn hF hi (noDefer_spec hdf hi) hy hT0 ⟨hTS w hT0, H⟩
    · obtain ⟨hun, oj, hoj, hall⟩ := mem_ready.1 hj
      have hiun := (mem_ready.1 hr).1
      have hno : ∀ e ∈ oj.after, Region.binds .any e = true → e.on ≠ i := fun e he hb heq => by
        have h1 := hall e he hb
        subst heq
        have hlt : e.on < listed.size := by
          rcases Nat.lt_or_ge e.on listed.size with h' | h'
          · exact h'
          · rw [Array.getD_eq_getD_getElem?, Array.getElem?_eq_none h'] at h1; cases h1
        rw [Array.getD_eq_getD_getElem?, Array.getElem?_eq_getElem hlt] at h1 hiun
        simp only [Option.getD_some] at h1 hiun
        rw [h1] at hiun; cases hiun
      have h2 := wpOpIn_putIf hF hoj (noDefer_spec hdf hoj) (Region.free_spec hi hf j oj hoj hji hun hno) (fun cs b => Region.noSelect_spec hs i oi cs b hi) (fun cs b => Region.noSelect_spec hs j oj cs b hoj) hQ hy (H.2 j (ready_mono hj hji))
      refine wpOpIn_mono (fun a' w' h3 => ⟨h3.2.1, ih _ a' w' ?_ ?_ (ready_mono hr (Ne.symm hji)) h3.1 (hT j oj hoj hji hun hno w' h3.2.1) ?_⟩) h2
      · intro k ok hk hki hku hkn w' hn
        refine hT k ok hk hki ?_ hkn w' hn
        by_cases hjk : j = k
        · subst hjk; exact hun
        · rwa [getD_set_ne true hjk] at hku
      · unfold Region.free at hf ⊢
        rw [hi] at hf ⊢
        simp only [List.all_eq_true] at hf ⊢
        intro k hk
        have h4 := hf k hk
        by_cases hjk : j = k
        · subst hjk
          have : (listed.setIfInBounds j true).getD j true = true := by
            rw [Array.getD_eq_getD_getElem?, Array.getElem?_setIfInBounds]
            rw [if_pos rfl]
            split
            · rfl
            · rename_i hlt; rfl
          rw [this]; simp
        · rw [getD_set_ne true hjk]; exact h4
      · rw [Array.setIfInBounds_comm _ _ hji]
        exact h3.2.2

/-- the checks of a take -/
def takeOKN (l : List Oper) (listed : Array Bool) (i : Nat) : Bool := noDefer l && takeOK l listed i

theorem rgN_start (S : World → Prop) (need : List Nat) {id : Nat} (hm : P.follows .mixedOrders = true)
    (h : wpXN F n P l Q S need l.length (Array.replicate l.length false) a w.drew) : (Code.region id l.toArray true).wpIn F n P Q a w :=
  wpIn_region_any hm (by rw [List.size_toArray]; exact wpXN_any _ _ _ _ h)

theorem rgN_free (hF : ∀ f, F.fn f) (i : Nat) {oi : Oper} {v : Value} (hi : l[i]? = some oi) (hk : (takeOKN l listed i && !need.contains i) = true)
    (hy : YieldsIf P l.toArray (fun _ => True) oi v a) (hQ : ∀ c a w, Q (.panic c) (a.put oi.dst v) w → Q (.panic c) a w)
    (h : wpXN F n P l Q S need fuel (listed.setIfInBounds i true) (a.put oi.dst v) w) : wpXN F n P l Q S need (fuel + 1) listed a w := by
  simp only [takeOKN, takeOK, Bool.and_eq_true, Bool.not_eq_true'] at hk
  exact wpXN_take hF hk.1.1 (T := fun _ => True) (by simpa using hi) hk.1.2.1.1 hQ (fun _ _ h => by rw [hk.2] at h; cases h) fuel listed a w (fun _ _ _ _ _ _ _ _ => trivial) hk.1.2.1.2 (by simpa using hk.1.2.2) hy trivial h

theorem rgN_if (hF : ∀ f, F.fn f) (i : Nat) {oi : Oper} {v : Value} (hi : l[i]? = some oi) (hk : (takeOKN l listed i && needOK l need listed i) = true) (hS : S w)
    (hy : YieldsIf P l.toArray S oi v a) (hQ : ∀ c a w, Q (.panic c) (a.put oi.dst v) w → Q (.panic c) a w)
    (h : wpXN F n P l Q S need fuel (listed.setIfInBounds i true) (a.put oi.dst v) w) : wpXN F n P l Q S need (fuel + 1) listed a w := by
  simp only [takeOKN, takeOK, Bool.and_eq_true] at hk
  refine wpXN_take hF hk.1.1 (T := S) (by simpa using hi) hk.1.2.1.1 hQ (fun _ h _ => h) fuel listed a w (fun j oj hj hne hun hno w' hn => hn ?_) hk.1.2.1.2 (by simpa using hk.1.2.2) hy hS h
  have h2 := hk.2
  simp only [needOK, List.all_eq_true, List.mem_range] at h2
  have hj' : l[j]? = some oj := by simpa using hj
  have h3 := h2 j (List.getElem?_eq_some_iff.1 hj').1
  rw [hj', hun] at h3
  simp only [Bool.or_eq_true, beq_iff_eq, hne, false_or, Bool.false_eq_true] at h3
  rcases h3 with h3 | h3
  · exact h3
  · rw [Array.any_eq_true'] at h3
    obtain ⟨e, he, h4⟩ := h3
    simp only [Bool.and_eq_true, beq_iff_eq] at h4
    exact absurd h4.2 (hno e he h4.1)

theorem rgN_pure (hF : ∀ f, F.fn f) (i : Nat) {oi : Oper} {v : Value} (hi : l[i]? = some oi) (hk : (takeOKN l listed i && !need.contains i) = true)
    (hQ : ∀ c a w, Q (.panic c) (a.put oi.dst v) w → Q (.panic c) a w) (hw : Region.wanted oi (yielded l.toArray a.tmps) = true)
    (hy : ∀ w, (execOp a.eval oi).run P w = .ok (.value v) w)
    (h : wpXN F n P l Q S need fuel (listed.setIfInBounds i true) (a.put oi.dst v) w) : wpXN F n P l Q S need (fuel + 1) listed a w :=
  rgN_free hF i hi hk (.inl ⟨hw, fun w _ => hy w⟩) hQ h
theorem rgN_pureS (hF : ∀ f, F.fn f) (i : Nat) {oi : Oper} {v : Value} (hi : l[i]? = some oi) (hk : (takeOKN l listed i && needOK l need listed i) = true)
    (hQ : ∀ c a w, Q (.panic c) (a.put oi.dst v) w → Q (.panic c) a w) (hw : Region.wanted oi (yielded l.toArray a.tmps) = true) (hS : S w)
    (hy : ∀ w, (execOp a.eval oi).run P w = .ok (.value v) w)
    (h : wpXN F n P l Q S need fuel (listed.setIfInBounds i true) (a.put oi.dst v) w) : wpXN F n P l Q S need (fuel + 1) listed a w :=
  rgN_if hF i hi hk hS (.inl ⟨hw, fun w _ => hy w⟩) hQ h
theorem rgN_load (hF : ∀ f, F.fn f) (i : Nat) {oi : Oper} (hi : l[i]? = some oi) (hk : (takeOKN l listed i && needOK l need listed i) = true)
    (hw : Region.wanted oi (yielded l.toArray a.tmps) = true) (hS : S w) (T : TypeId) (x : Operand) (ho : oi.op = .load T x) (b j : Nat) (hx : a.eval x = .pointer (some ⟨b, j, none⟩)) (v : Value) [hs : Scal P T]
    (hc : ∀ w, S w → w.cell? ⟨b, j, none⟩ = some v) (hQ : ∀ c a w, Q (.panic c) (a.put oi.dst v) w → Q (.panic c) a w)
    (h : wpXN F n P l Q S need fuel (listed.setIfInBounds i true) (a.put oi.dst v) w) : wpXN F n P l Q S need (fuel + 1) listed a w :=
  rgN_if hF i hi hk hS (.inl ⟨hw, fun w hS => ex_load T x ho hs.pf b j hx v (hc w hS)⟩) hQ h
theorem rgN_step (hF : ∀ f, F.fn f) (i : Nat) {o : Oper} (hi : l[i]? = some o) (hr : (Region.ready .any l.toArray listed == [i]) = true)
    (h : ∀ K', Shut (∀ a w, (need.contains i = true → S w) → wpXN F n P l Q S need fuel (listed.setIfInBounds i true) a w → K' a w) → wpListIn F n P l.toArray (kpost K' Q) [o] a w) : wpXN F n P l Q S need (fuel + 1) listed a w := by
  have hr' : Region.ready .any l.toArray listed = [i] := by simpa using hr
  refine ⟨fun h0 => absurd (h0 ▸ hr') (by simp), fun k hk => ?_⟩
  obtain rfl : k = i := by rw [hr'] at hk; simpa using hk
  obtain ⟨K, hK⟩ : ∃ K, K = (fun a' w' => (need.contains k = true → S w') ∧ wpXN F n P l Q S need fuel (listed.setIfInBounds k true) a' w') := ⟨_, rfl⟩
  have h2 := h K (fun a w hS hW => by rw [hK]; exact ⟨hS, hW⟩)
  unfold wpListIn at h2
  unfold Go.wpOpIn
  simp only [List.getElem?_toArray, hi]
  rw [← hK]
  have hl : wpListIn F n P l.toArray (kpost K Q) [] = K := by funext a w; unfold wpListIn; rfl
  rw [hl] at h2
  split
  · rename_i hw
    rw [if_pos hw] at h2
    unfold Oper.wpIn at h2 ⊢
    refine ⟨h2.1, ?_⟩
    have h2 := h2.2
    generalize (o.semAt F.round a.eval).run P w = r at h2
    cases r with
    | ok n w' => cases n <;> exact h2
    | halt x w' => cases x <;> exact h2
  · rename_i hw
    rw [if_neg hw, hK] at h2
    exact h2

theorem rgN_done (hr : (Region.ready .any l.toArray listed == []) = true) (h : Q .normal a w) : wpXN F n P l Q S need fuel listed a w := by
  have hr' : Region.ready .any l.toArray listed = [] := by simpa using hr
  cases fuel with
  | zero => exact ⟨hr', h⟩
  | succ n => exact ⟨fun _ => h, by rw [hr']; simp⟩
theorem rgN_back {K : Act → World → Prop} (h : K a w) : wpListIn F n P l.toArray (kpost K Q) [] a w := by
  unfold wpListIn; exact h
end

/-- a round of the enclosing loop's, called for within a round -/
theorem Yields.atR {α : Type} {P : Program} {l l0 : Nat} {encs : α → Array Value} {xs : List α} {Inv Bad : List α → Imm → List Item → Prop} (h : Yields P l encs xs Inv Bad) {L0 I0 w0 I Lit B w} (hS : Nx L0 I0 w0 I (Lit ++ B) w)
    {pre : List α} (x : α) (hx : (pre ++ [x]) <+: xs) (hI : Inv pre I B) {args : Array Value} (ha : encs x = args) {o : Oper} {a : Act} {next : Act → World → Prop} {Q : Exit → Act → World → Prop}
    (hgo : ∀ J B' w', Nx L0 I0 w0 J (Lit ++ B') w' → Inv (pre ++ [x]) J B' → next (a.put o.dst (.bool true)) w')
    (hno : ∀ J B' w', Nx L0 I0 w0 J (Lit ++ B') w' → Bad (pre ++ [x]) J B' → next (a.put o.dst (.bool false)) w') :
    o.uponIn (Fence.wide.inRound l0) 0 P a next Q ((Instr.yield l args).run P w) := by
  obtain ⟨fn, tmps, assign, body, hy, hR⟩ := h pre x I B w hx (Init.right hS.toInit) hI
  rw [← ha, hy]
  refine ⟨fun h => by simp [Fence.wide] at h, RoundIn.mono (show RoundIn (Fence.wide.inRound l0) (0 - 1) P l fn tmps assign body w _ from hR) ?_⟩
  rintro e w' (⟨rfl, J, B', hn, hi⟩ | ⟨rfl, J, B', hn, hb⟩)
  · exact hgo J B' w' (hS.callTail hn) hi
  · exact hno J B' w' (hS.callTail hn) hb
end Go.Proofs.YtmlgieclkedomaaGreat

namespace Go.Proofs.YtmlgieclkedomaaGreat
open Go Go.RowKit

/-- the iterator's word, where it keeps items of its own to the end -/
def EmitsK {α : Type} (P : Program) (f : Nat) (lb : Array Value) (encs : α → Array Value) (I : Imm) (w : World) (Lit Lit' : List Item) (xs : List α) : Prop :=
  ∀ (l : Nat) (Inv Bad : List α → Imm → List Item → Prop) (B : List Item), Yields P l encs xs Inv Bad → Init I (Lit ++ B) w → Inv [] I B →
    CallsIn Fence.wide 0 P f (#[.func (.yield l) #[] #[]] ++ lb) w fun e w' => (∃ v, e = .returned v) ∧
      ∃ J B', Nx (Lit ++ B) I w J (Lit' ++ B') w' ∧ (Inv xs J B' ∨ ∃ pre, pre <+: xs ∧ Bad pre J B')

theorem wpIn_rangeK {α : Type} {P : Program} {g : Operand} {ps : Array Tmp} {assign body : Code} {Q : Exit → Act → World → Prop} {a : Act} {w w0 : World} {L0 : List Item} {I0 I : Imm}
    {gf : Nat} {lb : Array Value} (hg : a.eval g = .func (.func gf) #[] lb) (eg : ∀ args w, (callFunc gf args).run P w = .ok (.enter gf args) w)
    {encs : α → Array Value} {Lit Lit' L : List Item} {xs : List α} (hS : Nx L0 I0 w0 I (Lit ++ L) w) (hseq : ∀ w', Nx L0 I0 w0 I (Lit ++ L) w' → EmitsK P gf lb encs I w' Lit Lit' xs) (hps : ∀ x, (encs x).size = ps.size)
    (Inv : List α → Imm → List Item → Prop) (Bad : Code → List α → Imm → List Item → Prop) (h0 : Inv [] I L)
    (hround : ∀ (l : Nat) (pre : List α) (x : α) (I : Imm) (B : List Item) (w : World), (pre ++ [x]) <+: xs → Init I B w → Inv pre I B →
      assign.wpIn (Fence.wide.inRound l) 0 P (Exit.then (fun a1 w1 => ∃ J B', Nx B I w J B' w1 ∧ ∀ w2, Init J B' w2 → body.wpIn (Fence.wide.inRound l) 0 P (roundPostN Inv Bad (pre ++ [x]) J B' w2) a1 w2) (fun _ _ _ => False))
        { tmps := (ps.zip (encs x)).foldl (fun t (p, v) => t.setIfInBounds p v) a.tmps, defers := [] } w)
    (hdone : ∀ (D : Nat) (J : Imm) (B' : List Item) (w' : World), Nx L0 I0 w0 J (.obj D (.deferred (some [])) :: (Lit' ++ B')) w' → Inv xs J B' →
      Q .normal { a with defers := { target := .collected D, args := #[] } :: a.defers } w')
    (hstop : ∀ (D : Nat) (c : Code) (pre : List α) (J : Imm) (B' : List Item) (w' : World), Nx L0 I0 w0 J (.obj D (.deferred (some [])) :: (Lit' ++ B')) w' → pre <+: xs → Bad c pre J B' →
      c.wpIn Fence.wide 0 P Q { a with defers := { target := .collected D, args := #[] } :: a.defers } w') :
    (Code.rangeFunc g ps assign body).wpIn Fence.wide 0 P Q a w := by
  refine wpIn_rangeFunc ?_
  intro fn hfn
  obtain ⟨rec, hrec⟩ : ∃ rec : LoopState → Option Code → Loop, rec = fun st pe => { state := st, pending := pe, fn, tmps := a.tmps, params := ps, assign, body, defers := w.heap.size } := ⟨_, rfl⟩
  obtain ⟨W1, hW1⟩ : ∃ W1, (w.alloc (.deferred (some []))).alloc (.loop (rec .ready none)) = W1 := ⟨_, rfl⟩
  have hS1 := (hS.allocObj (.deferred (some []))).allocObj (.loop (rec .ready none))
  rw [hW1, World.size_alloc] at hS1
  obtain ⟨D, hD⟩ : ∃ D, D = w.heap.size := ⟨_, rfl⟩
  obtain ⟨l, hl⟩ : ∃ l, l = w.heap.size + 1 := ⟨_, rfl⟩
  rw [← hl, ← hD] at hS1
  have hpL : ∀ (Lx Lb : List Item) (x y : Item), (x :: y :: (Lx ++ Lb)).Perm (Lx ++ (x :: y :: Lb)) := fun Lx Lb x y =>
    (List.perm_append_comm (l₁ := [x, y]) (l₂ := Lx ++ Lb)).trans (by rw [List.append_assoc]; exact List.Perm.append_left Lx (List.perm_append_comm (l₁ := Lb) (l₂ := [x, y])))
  have hS2 := hS1.perm (hpL Lit L _ _)
  refine ⟨l, [{ target := .collected D, args := #[] }], W1, { target := .fn (.func gf) lb, args := #[.func (.yield l) #[] #[]] }, W1, gf,
    #[.func (.yield l) #[] #[]] ++ lb, W1, ?_, ?_, ?_, ?_, fun h => by simp [Fence.wide] at h, ?_⟩
  · rw [hl, hD, ← hW1, hrec]; exact run_enterLoop_outer _ _ _ _ _
  · simp only [resolve, hg]
    simp [go_sem]
  · intro f' hf'; trivial
  · simp [invoke, go_sem, eg]
  · have hnx1 : Nx L0 I0 w0 I (Lit ++ L) W1 := hS1.drop.drop
    refine (hseq W1 hnx1 l
      (fun pre I B => ∃ B1, B = .obj l (.loop (rec .ready none)) :: .obj D (.deferred (some [])) :: B1 ∧ Inv pre I B1)
      (fun pre I B => ∃ c B1, B = .obj l (.loop (rec .done (some c))) :: .obj D (.deferred (some [])) :: B1 ∧ Bad c pre I B1)
      (.obj l (.loop (rec .ready none)) :: .obj D (.deferred (some [])) :: L) ?_ hS2.toInit ⟨L, rfl, h0⟩).mono ?_
    · -- one round
      rintro pre x I B w hpre hin ⟨B1, rfl, hInv⟩
      have hl0 : w.heap[l]? = some (.loop (rec .ready none)) := hin.holds (.obj l _) (by simp)
      have hy := run_yield (P := P) (args := encs x) hl0 (by rw [hrec]; exact hps x)
      rw [hrec] at hy
      have hinB : Init I B1 w := Init.right (L := [_, _]) hin
      refine ⟨fn, _, assign, body, hy, roundIn_of_wpIn hfn (wpIn_mono (hround l pre x I B1 w hpre hinB hInv) ?_)⟩
      clear hy
      rintro e a1 w1 he
      cases e with
      | normal =>
        obtain ⟨J, B', hnx, hbody⟩ := he
        have hf1 := Nx.call (L1 := B1) (L2 := [.obj l (.loop (rec .ready none)), .obj D (.deferred (some []))])
          (hin.nx.perm (List.perm_append_comm (l₁ := [_, _]) (l₂ := B1))) hnx
        have hf2 := hf1.perm (List.perm_append_comm (l₁ := B') (l₂ := [.obj l (.loop (rec .ready none)), .obj D (.deferred (some []))]))
        have hl1 : w1.heap[l]? = some (.loop (rec .ready none)) := hf2.get (i := 0) rfl
        refine ⟨_, run_beginRound hl1 (by rw [hrec]), ?_⟩
        have hf3 := hf2.putObj (i := 0) rfl (.loop { rec .ready none with state := .busy })
        simp only [List.cons_append, List.nil_append, List.set_cons_zero] at hf3
        refine wpIn_mono (hbody _ (Init.right (L := [_, _]) hf3.toInit)) ?_
        have fin : ∀ (jump : Option Code) (K : Imm) (B'' : List Item) (w3 : World), Nx B' J (w1.putObj l (.loop { rec .ready none with state := .busy })) K B'' w3 →
            (Instr.endRound l jump).run P w3 = .ok (.bool jump.isNone) (w3.putObj l (.loop (rec (if jump.isNone then .ready else .done) jump))) ∧
            Nx (.obj l (.loop (rec .ready none)) :: .obj D (.deferred (some [])) :: B1) I w K (.obj l (.loop (rec (if jump.isNone then .ready else .done) jump)) :: .obj D (.deferred (some [])) :: B'') (w3.putObj l (.loop (rec (if jump.isNone then .ready else .done) jump))) := by
          intro jump K B'' w3 h3
          have g1 := Nx.call (L1 := B') (L2 := [.obj l (.loop { rec .ready none with state := .busy }), .obj D (.deferred (some []))])
            (hf3.perm (List.perm_append_comm (l₁ := [_, _]) (l₂ := B'))) h3
          have g2 := g1.perm (List.perm_append_comm (l₁ := B'') (l₂ := [.obj l (.loop { rec .ready none with state := .busy }), .obj D (.deferred (some []))]))
          have hl3 : w3.heap[l]? = some (.loop { rec .ready none with state := .busy }) := g2.get (i := 0) rfl
          have g3 := g2.putObj (i := 0) rfl (.loop (rec (if jump.isNone then .ready else .done) jump))
          simp only [List.cons_append, List.nil_append, List.set_cons_zero] at g3
          refine ⟨?_, g3⟩
          have := run_endRound (P := P) jump hl3
          rw [hrec] at this ⊢
          exact this
        rintro e a3 w3 hp
        cases e with
        | normal =>
          obtain ⟨K, B'', h3, hI3⟩ := hp
          obtain ⟨hr, hn⟩ := fin none K B'' w3 h3
          exact ⟨_, _, hr, .inl ⟨rfl, K, _, hn, B'', rfl, hI3⟩⟩
        | ret =>
          obtain ⟨K, B'', h3, hI3⟩ := hp
          obtain ⟨hr, hn⟩ := fin (some .ret) K B'' w3 h3
          exact ⟨_, _, hr, .inr ⟨rfl, K, _, hn, .ret, B'', rfl, hI3⟩⟩
        | exit id =>
          obtain ⟨K, B'', h3, hI3⟩ := hp
          obtain ⟨hr, hn⟩ := fin (some (.exit id)) K B'' w3 h3
          exact ⟨_, _, hr, .inr ⟨rfl, K, _, hn, .exit id, B'', rfl, hI3⟩⟩
        | goto t => exact hp.elim
        | panic ch => exact hp.elim
        | outgrown => exact hp.elim
      | exit id => exact he.elim
      | goto t => exact he.elim
      | ret => exact he.elim
      | panic ch => exact he.elim
      | outgrown => exact he.elim
    · rintro e w2 ⟨⟨v, rfl⟩, J, B', hnx, (⟨B1, rfl, hInv⟩ | ⟨pre, hpre, c, B1, rfl, hbad⟩)⟩
      · have h2 := (hS2.trans hnx).perm (hpL Lit' B1 _ _).symm
        have hl2 : w2.heap[l]? = some (.loop (rec .ready none)) := h2.get (i := 0) rfl
        have h3 := (h2.putObj (i := 0) rfl (.loop { rec .ready none with state := .exhausted })).drop
        refine ⟨none, _, ?_, hdone D J B1 _ h3 hInv⟩
        have := run_endLoop (P := P) hl2 (by rw [hrec]; simp)
        rw [hrec] at this ⊢
        exact this
      · have h2 := (hS2.trans hnx).perm (hpL Lit' B1 _ _).symm
        have hl2 : w2.heap[l]? = some (.loop (rec .done (some c))) := h2.get (i := 0) rfl
        have h3 := (h2.putObj (i := 0) rfl (.loop { rec .done (some c) with state := .exhausted })).drop
        refine ⟨some c, _, ?_, hstop D c pre J B1 _ h3 hpre hbad⟩
        have := run_endLoop (P := P) hl2 (by rw [hrec]; simp)
        rw [hrec] at this ⊢
        exact this
end Go.Proofs.YtmlgieclkedomaaGreat
