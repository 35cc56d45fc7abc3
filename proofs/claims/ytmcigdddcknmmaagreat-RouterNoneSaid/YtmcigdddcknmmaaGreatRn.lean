/- RouterNone gives true, and nothing that was there has changed: for every number and every row of bytes. -/
import Derived.Test.YtmcigdddcknmmaaGreatRe
import Derived.Test.YtmcigdddcknmmaaGreatCp
namespace Go.Proofs.YtmcigdddcknmmaaGreat
open Go Go.Ev Go.RowKit

theorem IsRow.below {k : IntKind} {w w1 : World} {a : Option Addr} {len cap : Nat} {zs : List Int} (h : IsRow k w a len cap zs) (hb : Below w.heap.size w w1) : IsRow k w1 a len cap zs := by
  rcases h with h | ⟨x, h1, h2, h3, h4, h5, h6⟩
  · exact .inl h
  · refine .inr ⟨x, h1, h2, h3, h4, fun i hi => ?_, h6⟩
    have hc := h5 i hi
    have hlt : (x.add i).block < w.heap.size := by
      rcases Nat.lt_or_ge (x.add i).block w.heap.size with h | h
      · exact h
      · exfalso
        simp [World.cell?, Array.getElem?_eq_none h] at hc
    rw [hb.cell hlt]
    exact hc
theorem works_any (w : World) : CallsIn Fence.wide 0 Tryz.prog 4 #[] w (fun e w1 => e = .returned (.bool true) ∧ Below w.heap.size w w1) := by
  refine CallsIn.mono (works_closed.ca w) ?_
  rintro e w1 ⟨v', rfl, hv, h1, h2, h3, h4, h5⟩
  cases hv
  exact ⟨rfl, h2, h4, h3, h1, h5⟩

set_option maxRecDepth 100000 in
theorem law_long (a0 : Int) (a1 : Option Addr) (len1 cap1 : Nat) (w : World) (hl : (65536 : Int) < (len1 : Int)) : CallsIn Fence.wide 0 Tryz.prog 3 #[.int .i64 a0, .slice a1 len1 cap1] w (fun e w' => e = .returned (.bool true) ∧ Below w.heap.size w w') := by
  have hf : ∀ f, Fence.wide.fn f := fun _ => trivial
  have hd : Fence.wide.depth = none := rfl
  refine callsIn_of_wp Tryz.func3 rfl trivial ?_
  simp only [Tryz.ntmps3, List.size_toArray, List.length_cons, List.length_nil, Nat.reduceAdd, Nat.reduceSub, Array.replicate_succ, Array.replicate_zero, List.push_toArray, List.append_toArray, List.nil_append, List.cons_append]
  gi_wp2_with ((gi_at_call 4; refine CallsIn.mono (works_any _) ?_; rintro e w' ⟨rfl, hb⟩))
  go_ret
  exact ⟨rfl, hb⟩

theorem _root_.Go.Ev.HR.below {P : Program} {dyn : List TypeId} {φ : Phi} {H : Pos → Option AO} {w w1 : World} (h : HR P dyn φ H w) (hb : Below w.heap.size w w1) : HR P dyn φ H w1 :=
  h.heap_eq (fun n o L hn hL => by
    obtain ⟨L', ob, h1, h2, _⟩ := h.blk n o hn
    rw [hL] at h1
    cases h1
    exact hb.block _ (Array.getElem?_eq_some_iff.1 h2).1)
def yob : Obj := .cells #[.bool false, .int .u32 0, .int .i64 0, .bool false, .slice none 0 0, .slice none 0 0, .slice none 0 0, .slice none 0 0, .slice none 0 0, .slice none 0 0, .int .i64 0, .bool false, .int .i64 0, .slice none 0 0, .slice none 0 0, .pointer none, .bool false, .slice none 0 0, .int .i64 0, .slice none 0 0, .slice none 0 0, .slice none 0 0, .int .i64 0, .int .i64 0, .int .i64 0, .int .i64 0, .int .i64 0, .int .i64 0, .int .i64 0, .int .i64 0, .slice none 0 0, .slice none 0 0, .slice none 0 0] 49
theorem y_here (w : World) : HR Tryz.prog dyn (upL (fun _ => none) q1 ⟨w.heap.size, 0, 33⟩) (fun p => hR.get p) (w.alloc yob) := by
  have h0 : HR Tryz.prog dyn (fun _ => none) (fun p => (TT.e : TT AO).get p) w := ⟨fun n o h => (by simp only [get_e] at h; cases h), fun n m o o' L L' h => (by simp only [get_e] at h; cases h)⟩
  have hv : VRs (fun _ => none) zc [.bool false, .int .u32 0, .int .i64 0, .bool false, .slice none 0 0, .slice none 0 0, .slice none 0 0, .slice none 0 0, .slice none 0 0, .slice none 0 0, .int .i64 0, .bool false, .int .i64 0, .slice none 0 0, .slice none 0 0, .pointer none, .bool false, .slice none 0 0, .int .i64 0, .slice none 0 0, .slice none 0 0, .slice none 0 0, .int .i64 0, .int .i64 0, .int .i64 0, .int .i64 0, .int .i64 0, .int .i64 0, .int .i64 0, .int .i64 0, .slice none 0 0, .slice none 0 0, .slice none 0 0] := by
    unfold zc
    repeat (first | exact VRs.nil | refine VRs.cons (by constructor) ?_)
  exact (h0.alloc (k := q1) rfl (.c zc false) yob 0 33 (OR.cells hv (upL_le _ rfl) (by decide) _ _)).1

theorem FR_inv (t : Nat) (v : AV) (ht : t < 169) (h : FR.get (pos t) = some v) : (t = 0 ∧ v = .oi .i64) ∨ (t = 5 ∧ v = .pz) ∨ (t = 6 ∧ v = .p q1 0) ∨ (t = 8 ∧ v = .i .i64 (.ofNat 1)) ∨ (t = 10 ∧ v = .i .i64 (.ofNat 1)) := by
  have h0 : pos 0 = q1 := by kernel_rfl
  have h5 : pos 5 = q6 := by kernel_rfl
  have h6 : pos 6 = q7 := by kernel_rfl
  have h8 : pos 8 = q9 := by kernel_rfl
  have h10 : pos 10 = q11 := by kernel_rfl
  have inj : ∀ u, u < 169 → pos t = pos u → t = u := fun u hu e => pos_inj (by omega) (by omega) e
  unfold FR at h
  rw [get_put, get_put, get_put, get_put, get_put, get_e] at h
  split at h
  · rename_i e; cases h; exact .inr (.inr (.inr (.inr ⟨inj 10 (by omega) (by rw [h10]; exact e), rfl⟩)))
  split at h
  · rename_i e; cases h; exact .inr (.inr (.inr (.inl ⟨inj 8 (by omega) (by rw [h8]; exact e), rfl⟩)))
  split at h
  · rename_i e; cases h; exact .inr (.inr (.inl ⟨inj 6 (by omega) (by rw [h6]; exact e), rfl⟩))
  split at h
  · rename_i e; cases h; exact .inr (.inl ⟨inj 5 (by omega) (by rw [h5]; exact e), rfl⟩)
  split at h
  · rename_i e; cases h; exact .inl ⟨inj 0 (by omega) (by rw [h0]; exact e), rfl⟩
  · cases h

set_option maxRecDepth 100000 in
theorem law_short (a0 : Int) (a1 : Option Addr) (len1 cap1 : Nat) (z1 : List Int) (w : World) (hl : ¬ (65536 : Int) < (len1 : Int)) (w1 : IsRow .u8 w a1 len1 cap1 z1) : CallsIn Fence.wide 0 Tryz.prog 3 #[.int .i64 a0, .slice a1 len1 cap1] w (fun e w' => e = .returned (.bool true) ∧ Below w.heap.size w w') := by
  have hl' : len1 ≤ 65536 := by omega
  have hf : ∀ f, Fence.wide.fn f := fun _ => trivial
  have hd : Fence.wide.depth = none := rfl
  refine callsIn_of_wp Tryz.func3 rfl trivial ?_
  simp only [Tryz.ntmps3, List.size_toArray, List.length_cons, List.length_nil, Nat.reduceAdd, Nat.reduceSub, Array.replicate_succ, Array.replicate_zero, List.push_toArray, List.append_toArray, List.nil_append, List.cons_append]
  gi_wp2_with fail
  have hb0 := (Below.refl w.heap.size w).alloc (Nat.le_refl _) yob
  refine CallsIn.mono (copy_any a1 len1 cap1 z1 _ (w1.below hb0) hl') ?_
  rintro e wA ⟨aa, la, ca, rfl, hbA⟩
  gi_wp2_with fail
  refine CallsIn.mono (take_nil _ a0 aa la ca) ?_
  rintro e wB ⟨rfl, hbB⟩
  gi_wp2_with fail
  have hs1 : (w.alloc yob).heap.size = w.heap.size + 1 := by rw [heap_alloc]; simp
  have hb1 : Below (w.alloc yob).heap.size (w.alloc yob) wB := hbA.trans (hbB.mono hbA.size)
  have hb2 := hb1.alloc hb1.size (.cells #[.slice none 0 0, .slice none 0 0] 46)
  refine CallsIn.mono (copy_any a1 len1 cap1 z1 _ (((w1.below hb0)).below hb2) hl') ?_
  rintro e wC ⟨ab, lb, cb, rfl, hbC⟩
  gi_wp2_with fail
  have hb3 : Below (w.alloc yob).heap.size (w.alloc yob) wC := hb2.trans (hbC.mono hb2.size)
  refine CallsIn.mono (take_zero wC w.heap.size (upL (fun _ => none) q1 ⟨w.heap.size, 0, 33⟩) (upL_same _ _ _) (fun n hn => by rw [upL_other _ _ (fun e => by subst e; exact absurd hn (by decide))]) ((y_here w).below hb3) a0 ab lb cb) ?_
  rintro e wD ⟨rfl, hbD, φ1, hφ1, hn1, hhD⟩
  have hs3 := hb3.size
  have hb4 : Below w.heap.size w wD := (hb0.trans (hb3.mono (by omega))).trans (hbD w.heap.size (Nat.le_refl _) (by omega))
  simp only []
  iterate 22 gi_step
  have hbE := (Below.refl wD.heap.size wD).alloc (Nat.le_refl _) (.cells #[.slice none 0 0, .slice none 0 0] 46)
  obtain ⟨F, h1, k1, he, hF5⟩ := isRet_inv rest_run
  obtain ⟨_, hA⟩ := sAllR.ok.ex _ _ _ _ _ _ _ _ _ _ _ he
  refine wpIn_mono (hA _ 309485009821345068735092083 169 restCC (by kernel_rfl) (by omega) φ1 _ _ Fence.wide ?_ DRs.nil rfl (hhD.below hbE) (fun n hn _ => hn1 n hn)) ?_
  · refine ⟨rfl, fun t v ht hv => ?_⟩
    rcases FR_inv t v ht hv with ⟨rfl, rfl⟩ | ⟨rfl, rfl⟩ | ⟨rfl, rfl⟩ | ⟨rfl, rfl⟩ | ⟨rfl, rfl⟩
    · exact ⟨by kernel_rfl, _, rfl, .oi _ _⟩
    · exact ⟨by kernel_rfl, _, rfl, .pz⟩
    · exact ⟨by kernel_rfl, _, rfl, by simpa using VR.p q1 0 ⟨w.heap.size, 0, 33⟩ hφ1⟩
    · exact ⟨by kernel_rfl, _, rfl, .i _ _⟩
    · exact ⟨by kernel_rfl, _, rfl, .i _ _⟩
  · rintro e a2 w2 ⟨rfl, φ2, hT2, hD2, hA2⟩
    have hds : a2.defers = [] := by
      generalize a2.defers = ds at hD2
      cases hD2
      rfl
    have hp4 : pos 4 = q5 := by kernel_rfl
    obtain ⟨_, v', hv1, hv2⟩ := hT2.slot 4 (.b true) (by omega) (by rw [hp4]; exact hF5)
    cases hv2
    have hbF : Below w.heap.size w w2 := by
      have hbE' : Below w.heap.size wD _ := hbE.mono hb4.size
      refine (hb4.trans hbE').trans (below_of_ext hA2.ex (Nat.le_trans hb4.size hbE.size) (fun x hx => ?_))
      obtain ⟨n, o, L, h0, hL, rfl⟩ := hx
      have hn1' : n = q1 := by
        by_cases e : n = q1
        · exact e
        · exfalso
          simp only [hR] at h0
          rw [get_put, if_neg e, get_e] at h0
          cases h0
      subst hn1'
      rw [hφ1] at hL
      cases hL
      exact Nat.le_refl _
    show bodyPost Tryz.prog Tryz.f3 _ Exit.ret a2 w2
    refine ⟨hds, .bool true, ?_, rfl, hbF⟩
    simp [results, Tryz.results3, hv1]
end Go.Proofs.YtmcigdddcknmmaaGreat
