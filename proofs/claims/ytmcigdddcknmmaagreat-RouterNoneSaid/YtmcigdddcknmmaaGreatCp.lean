/- A copy of a row of bytes is a slice, and nothing that was there has changed: for every row that reads as one. -/
import Derived.Test.YtmcigdddcknmmaaGreatProg
import Derived.WalkKit
import Derived.TacticsInMore
import Derived.Below
import Derived.Laws.Append
import Derived.KernelRfl
import Derived.OwnWalkIn
import Derived.Lib.Hide
namespace Go.Proofs.YtmcigdddcknmmaaGreat
open Go Go.RowKit

def IsRow (k : IntKind) (w : World) (a : Option Addr) (len cap : Nat) (zs : List Int) : Prop :=
  (a = none ∧ len = 0 ∧ cap = 0 ∧ zs = []) ∨
  ∃ x, a = some x ∧ len ≤ cap ∧ cap ≤ maxLen ∧ zs.length = cap ∧ (∀ i, i < zs.length → w.cell? (x.add i) = some (.int k (zs.getD i 0))) ∧ ∀ n ∈ zs, (Lit.int k n).wf = true

def SomeSlice (w : World) (e : Ending) (w' : World) : Prop := ∃ a l c, e = .returned (.slice a l c) ∧ Below w.heap.size w w'

theorem append_run {n : Nat} {P : Program} {ops : Array Oper} {rest : List Oper} {o : Oper} {a : Act} {Q : Exit → Act → World → Prop} {w w' : World} {v vs vx : Value} (hg : o.guard = none) (s x : Operand) (t : TypeId)
    (hop : o.op = Op.call { callee := Callee.builtin Builtin.append, args := #[s, x], argTypes := #[t, t] }) (hs : a.eval s = vs) (hx : a.eval x = vx) (hrun : (Builtin.append_ #[t, t] o.type #[vs, vx]).run P w = .ok v w')
    (hK : wpListIn Fence.wide n P ops Q rest (a.put o.dst v) w') : wpListIn Fence.wide n P ops Q (o :: rest) a w := by
  refine wpListIn_plain hg fun K hK' => ?_
  unfold Oper.wpIn
  refine ⟨fun f _ => trivial, ?_⟩
  rw [Oper.semAt_plain Fence.wide _ _ (by rw [hop]; intro c hc'; cases hc')]
  simp [execOp, hop, resolve, invoke, builtin, hs, hx, hrun, Result.andThen]
  exact hK' _ _ hK

theorem info5 : ∃ i z, Tryz.prog.info? 5 = some i ∧ i.size = 1 ∧ i.bytes = 1 ∧ i.zero = some z := by
  have h : (Tryz.prog.info? 5).map (fun i => (i.size, i.bytes, i.zero.isSome)) = some (1, 1, true) := by kernel_rfl
  cases hi : Tryz.prog.info? 5 with
  | none => rw [hi] at h; cases h
  | some i =>
    rw [hi] at h
    simp only [Option.map_some, Option.some.injEq, Prod.mk.injEq] at h
    obtain ⟨z, hz⟩ := Option.isSome_iff_exists.1 h.2.2
    exact ⟨i, z, rfl, h.1, h.2.1, hz⟩
theorem copy_any (a : Option Addr) (len cap : Nat) (zs : List Int) (w : World) (hr : IsRow .u8 w a len cap zs) (hl : len ≤ 65536) : CallsIn Fence.wide 0 Tryz.prog 6 #[.slice a len cap] w (SomeSlice w) := by
  rcases hr with ⟨rfl, rfl, rfl, rfl⟩ | ⟨x, rfl, hlc, hm, hz, hcell, hwz⟩
  · refine callsIn_of_wp Tryz.func6 rfl trivial ?_
    simp only [Tryz.ntmps6, List.size_toArray, List.length_cons, List.length_nil, Nat.reduceAdd, Nat.reduceSub, Array.replicate_succ, Array.replicate_zero, List.push_toArray, List.append_toArray, List.nil_append, List.cons_append]
    gi_wp2
    go_ret
    exact ⟨_, _, _, rfl, Below.refl _ _⟩
  · by_cases h0 : len = 0
    · subst h0
      refine callsIn_of_wp Tryz.func6 rfl trivial ?_
      simp only [Tryz.ntmps6, List.size_toArray, List.length_cons, List.length_nil, Nat.reduceAdd, Nat.reduceSub, Array.replicate_succ, Array.replicate_zero, List.push_toArray, List.append_toArray, List.nil_append, List.cons_append]
      gi_wp2
      go_ret
      exact ⟨_, _, _, rfl, Below.refl _ _⟩
    · obtain ⟨i, z, hi, hi1, hi2, hi3⟩ := info5
      have hrun := fun ty => run_append_nil (P := Tryz.prog) w 22 ty 5 i z Tryz.underlying22 hi hi3 x len cap ((List.range len).map fun i => Value.int .u8 (zs.getD i 0)) (by simp [hi1]) (fun j v hj => by
        rw [List.getElem?_map] at hj
        cases hr : (List.range len)[j]? with
        | none => rw [hr] at hj; cases hj
        | some q =>
          rw [hr] at hj
          have hq := List.getElem?_eq_some_iff.1 hr
          obtain ⟨hlt, hq⟩ := hq
          simp at hlt hq
          subst hq
          cases hj
          exact hcell j (by omega)) (by omega) (by omega) (by rw [hi2]; omega)
      clear hi hi1 hi2 hi3 hz hcell hwz
      generalize hG : grownCap w len 0 5 = g at hrun
      generalize hC : Obj.cells _ 5 = ob at hrun
      have hrun := Lib.hid hrun
      clear hG hC
      refine callsIn_of_wp Tryz.func6 rfl trivial ?_
      simp only [Tryz.ntmps6, List.size_toArray, List.length_cons, List.length_nil, Nat.reduceAdd, Nat.reduceSub, Array.replicate_succ, Array.replicate_zero, List.push_toArray, List.append_toArray, List.nil_append, List.cons_append]
      gi_wp2_with ((gi_at_builtin; refine append_run rfl _ _ 22 rfl rfl rfl (hrun.out 22) ?_))
      go_ret
      exact ⟨_, _, _, rfl, (Below.refl _ _).drew.alloc (Nat.le_refl _) _⟩
end Go.Proofs.YtmcigdddcknmmaaGreat
