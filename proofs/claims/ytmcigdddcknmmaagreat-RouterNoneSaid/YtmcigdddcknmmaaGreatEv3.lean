/- An evaluator whose answers are the machine's, proved once; part 3. No condition. -/
import Derived.Test.YtmcigdddcknmmaaGreatEv2
import Derived.OrdersIn
import Derived.RangeFuncRecord
import Derived.RangeFuncIn
import Derived.RangeFuncLeaves
import Derived.LoopNIn
namespace Go.Ev
open Go

section
variable {P : Program} {dyn : List TypeId} {φ : Phi} {oc : Operand → Option CV} {ρ : Rho} {ev : Operand → Value} {h : TT AO} {w : World} {k : Pos}

/-- a new block in a step. -/
theorem aft_alloc (hh : HR P dyn φ (fun p => h.get p) w) (hk : φ k = none) (o : AO) (ob : Obj) (base ext : Nat) (ho : OR P dyn (upL φ k ⟨w.heap.size, base, ext⟩) ⟨w.heap.size, base, ext⟩ o ob) :
    Aft P dyn φ h w k (upL φ k ⟨w.heap.size, base, ext⟩) (h.put k (some o)) (w.alloc ob) k.succ :=
  let ⟨h1, h2⟩ := hh.alloc hk o ob base ext ho
  ⟨upL_grown _ _ _, h1, h2⟩
theorem New.at {φ : Phi} {k : Pos} (h : New φ k k.succ) : φ k = none := h k (Nat.le_refl _) (by rw [Pos.num_succ]; omega)

theorem ef_range (hr : RhoOk φ oc ρ ev) (hh : HR P dyn φ (fun p => h.get p) w) (hk : φ k = none) {t kt et : TypeId} {om : Operand} {cm : CV} (hu : P.underlying t = some (.map kt et)) (h1 : oc om = some cm) {m : AV} (h4 : ρ cm = some m) {o : AO}
    (hw : (m = .mz ∧ o = .itz) ∨ ∃ n es clk, m = .m n ∧ h.get n = some (.mp es clk) ∧ o = .it n clk [] clk) :
    RunTo P dyn φ h w k (.p k 0) (h.put k (some o)) k.succ (do pure (Next.value (← Instr.range t (ev om)))) := by
  rcases hw with ⟨rfl, rfl⟩ | ⟨n, es, clk, rfl, hn, rfl⟩
  · have hm := hr.one h1 h4
    have hm : ev om = .map none := by generalize ev om = vm at hm; cases hm; rfl
    refine runTo_value (w1 := w.alloc (.mapIter none 0 #[] 0)) (v' := .pointer (some ⟨w.heap.size, 0, none⟩)) ?_ (vrPtr φ k w.heap.size 0) (aft_alloc hh hk .itz _ 0 0 (.itz 0 #[] 0 rfl))
    simp [Instr.range, run_underlying hu, hm]
  · obtain ⟨L, hL, hm⟩ := (hr.one h1 h4).inv_m
    obtain ⟨es', hmr, hb⟩ := map_blk hh hn hL
    refine runTo_value (w1 := w.alloc (.mapIter (some L.b) clk #[] clk)) (v' := .pointer (some ⟨w.heap.size, 0, none⟩)) ?_ (vrPtr φ k w.heap.size 0)
      (aft_alloc hh hk (.it n clk [] clk) _ 0 0 (.it n clk [] clk L (upL_le _ hk _ _ hL) rfl))
    simp [Instr.range, run_underlying hu, hm, run_getObj_map hb]
theorem ef_rangeStr (hr : RhoOk φ oc ρ ev) (hh : HR P dyn φ (fun p => h.get p) w) (hk : φ k = none) {t : TypeId} {om : Operand} {cm : CV} (hu : P.underlying t = some .string) (h1 : oc om = some cm) {l : List Nat} (h4 : ρ cm = some (.s l)) :
    RunTo P dyn φ h w k (.p k 0) (h.put k (some (.si l 0))) k.succ (do pure (Next.value (← Instr.range t (ev om)))) := by
  obtain ⟨hm, hl⟩ := (hr.one h1 h4).inv_s
  refine runTo_value (w1 := w.alloc (.stringIter (strOf l) 0)) (v' := .pointer (some ⟨w.heap.size, 0, none⟩)) ?_ (vrPtr φ k w.heap.size 0) (aft_alloc hh hk (.si l 0) _ 0 0 (.si l 0 hl rfl))
  simp [Instr.range, run_underlying hu, hm]

/-! ### The next of an iterator -/
theorem each_mem (x : Nat) : ∀ (seen : List Nat), each false (fun (y : Nat) r => Nat.beq y x || r) seen = decide (x ∈ seen)
  | [] => by simp [each]
  | y :: l => by
    change (Nat.beq y x || each false (fun (y : Nat) r => Nat.beq y x || r) l) = _
    rw [each_mem x l, beq_iff]
    by_cases h : y = x
    · subst h; simp
    · have : ¬ x = y := fun e => h e.symm
      simp [h, this]
theorem each_all (p : AV × AV × Nat → Bool) : ∀ (es : List (AV × AV × Nat)), each true (fun e r => p e && r) es = es.all p
  | [] => rfl
  | e :: es => by
    change (p e && each true (fun e r => p e && r) es) = _
    rw [each_all p es, List.all_cons]
theorem leftOf_cons (seen : List Nat) (e : AV × AV × Nat) (es : List (AV × AV × Nat)) :
    leftOf (e :: es) seen = cond (each false (fun (x : Nat) r => Nat.beq x e.2.2 || r) seen) (leftOf es seen) (e :: leftOf es seen) := rfl
theorem left_eq (seen : List Nat) : ∀ (es : List (AV × AV × Nat)), leftOf es seen = es.filter fun e => !decide (e.2.2 ∈ seen)
  | [] => rfl
  | e :: es => by
    rw [leftOf_cons, left_eq seen es, each_mem]
    by_cases h : e.2.2 ∈ seen <;> simp [h]
theorem MRs.filter {es : List (AV × AV × Nat)} {es' : List MapEntry} (h : MRs φ es es') (p : Nat → Bool) : MRs φ (es.filter fun e => p e.2.2) (es'.filter fun e => p e.born) := by
  induction h with
  | nil => exact .nil
  | @cons k v n l k' v' vs hk hv t ih =>
    by_cases hp : p n = true
    · simp only [List.filter_cons, hp, if_true]; exact .cons hk hv ih
    · simp only [List.filter_cons, hp, Bool.false_eq_true, if_false]; exact ih
theorem MRs.all {es : List (AV × AV × Nat)} {es' : List MapEntry} (h : MRs φ es es') (p : Nat → Bool) : (es.all fun e => p e.2.2) = es'.all fun e => p e.born := by
  induction h with
  | nil => rfl
  | cons _ _ _ ih => simp only [List.all_cons, ih]
theorem MRs.isEmpty {es : List (AV × AV × Nat)} {es' : List MapEntry} (h : MRs φ es es') : isNl es = es'.isEmpty := by
  cases h <;> rfl

theorem ef_nextMap (hr : RhoOk φ oc ρ ev) (hh : HR P dyn φ (fun p => h.get p) w) {ty : TypeId} {om : Operand} {cm : CV} (h1 : oc om = some cm) {n : Pos} (h4 : ρ cm = some (.p n 0)) {v : AV} {hp : TT AO}
    (hw : (h.get n = some .itz ∧ v = .tu [.b false] ∧ hp = h) ∨ ∃ m since seen last es clk r, h.get n = some (.it m since seen last) ∧ h.get m = some (.mp es clk) ∧ nxt es since seen last = some r ∧
      ((r = none ∧ v = .tu [.b false] ∧ hp = h) ∨ ∃ e, r = some e ∧ v = .tu [.b true, e.1, e.2.1] ∧ hp = h.put n (some (.it m since (e.2.2 :: seen) clk)))) :
    RunTo P dyn φ h w k v hp k (do pure (Next.value (← Instr.next (ev om) false ty))) := by
  obtain ⟨L, hL, hx⟩ := (hr.one h1 h4).inv_p
  have over : VR φ (.tu [.b false]) (.tuple #[.bool false]) := .tu _ _ (.cons (.b false) .nil)
  rcases hw with ⟨hn, rfl, rfl⟩ | ⟨m, since, seen, last, es, clk, r, hn, hm, hnx, hw⟩
  · obtain ⟨L', ob, e1, e2, e3⟩ := hh.blk n _ hn
    rw [hL] at e1; cases e1
    cases e3 with
    | itz s sn lt hb =>
      refine runTo_value (w1 := w) ?_ over (Aft.refl hh)
      have hgo : (getObj L.b).run P w = .ok (.mapIter none s sn lt) w := by simp [getObj, Sem.run, e2]
      simp only [Instr.next, hx, hb]
      simp [hgo]
  · obtain ⟨L', ob, e1, e2, e3⟩ := hh.blk n _ hn
    rw [hL] at e1; cases e1
    cases e3 with
    | it _ _ _ _ Lm hLm hb =>
      obtain ⟨es', hmr, hbm⟩ := map_blk hh hm hLm
      have hgo : (getObj L.b).run P w = .ok (.mapIter (some Lm.b) since ⟨seen.reverse⟩ last) w := by simp [getObj, Sem.run, e2]
      have hall := hmr.all (fun b => decide (last ≤ b))
      have hemp := hmr.isEmpty
      have hleft := hmr.filter (fun b => !decide (b ∈ seen))
      have hseen : isNl seen = seen.isEmpty := by cases seen <;> rfl
      have eall : each true (fun (e : AV × AV × Nat) r => Nat.ble last e.2.2 && r) es = es'.all fun e => decide (last ≤ e.born) := by
        rw [each_all, ← hall]
        congr 1
        funext e
        rw [ble_iff]
      have hfil : ∀ {left' : List MapEntry}, es'.filter (fun e => !decide (e.born ∈ seen)) = left' → (⟨es'⟩ : Array MapEntry).filter (fun e => !(⟨seen.reverse⟩ : Array Nat).contains e.born) = ⟨left'⟩ := by
        intro left' hl
        apply Array.ext'
        rw [← hl]
        simp
      unfold nxt at hnx
      rw [eall, hseen, hemp] at hnx
      rcases cond_eq_true hnx with ⟨_, hnx⟩ | ⟨hc, hnx⟩
      · cases hnx
      · rw [left_eq] at hnx
        have hc' : (!(⟨seen.reverse⟩ : Array Nat).isEmpty && !(⟨es'⟩ : Array MapEntry).isEmpty && (⟨es'⟩ : Array MapEntry).all fun e => decide (e.born ≥ last)) = false := by
          have : (⟨seen.reverse⟩ : Array Nat).isEmpty = seen.isEmpty := by simp
          rw [this]
          simpa using hc
        generalize hl' : es'.filter (fun e => !decide (e.born ∈ seen)) = left' at hleft
        have hfil := hfil hl'
        split at hnx
        · rename_i hle
          cases hnx
          rw [hle] at hleft
          cases hleft
          rcases hw with ⟨_, rfl, rfl⟩ | ⟨e, he, _⟩
          · refine runTo_value (w1 := w) ?_ over (Aft.refl hh)
            simp only [Instr.next, hx, hb, Nat.add_zero, Sem.run_bind, hgo, Result.andThen_ok, run_getObj_map hbm, hc', Bool.false_eq_true, if_false, hfil]
            simp [Question.forced]
          · cases he
        · rename_i e0 hle
          rcases cond_eq_true hnx with ⟨hlt, hnx⟩ | ⟨_, hnx⟩
          · cases hnx
            rw [hle] at hleft
            cases hleft with
            | @cons k0 v0 n0 _ k0' v0' _ hk hv t =>
              cases t
              rw [blt_iff] at hlt
              have hlt : n0 < since := by simpa using hlt
              have hnlt : ¬ since ≤ n0 := by omega
              rcases hw with ⟨he, _⟩ | ⟨e, he, rfl, rfl⟩
              · cases he
              · cases he
                obtain ⟨w1, e5, ha⟩ := setObj_run (k := k) hh hn hL e2 (by intro a t f e; cases e) (.it m since (n0 :: seen) clk) (.mapIter (some Lm.b) since ⟨(n0 :: seen).reverse⟩ clk) (.it m since (n0 :: seen) clk Lm hLm hb)
                refine runTo_value (w1 := w1) (v' := .tuple #[.bool true, k0', v0']) ?_ (.tu _ _ (.cons (.b true) (.cons hk (.cons hv .nil)))) ha
                simp only [Instr.next, hx, hb, Nat.add_zero, Sem.run_bind, hgo, Result.andThen_ok, run_getObj_map hbm, hc', Bool.false_eq_true, if_false, hfil]
                simp only [List.reverse_cons] at e5
                simp [Question.forced, hlt, hnlt, e5]
          · cases hnx
        · cases hnx

theorem ef_nextStr (hr : RhoOk φ oc ρ ev) (hh : HR P dyn φ (fun p => h.get p) w) {ty : TypeId} {om : Operand} {cm : CV} (h1 : oc om = some cm) {n : Pos} (h4 : ρ cm = some (.p n 0)) {l : List Nat} {pos : Nat} (hn : h.get n = some (.si l pos)) {v : AV} {hp : TT AO}
    (hw : (l.drop pos = [] ∧ v = .tu [.b false] ∧ hp = h) ∨ ∃ c r, l.drop pos = c :: r ∧ c < 128 ∧ v = .tu [.b true, .i .i64 (.ofNat pos), .i .i32 (.ofNat c)] ∧ hp = h.put n (some (.si l (pos + 1)))) :
    RunTo P dyn φ h w k v hp k (do pure (Next.value (← Instr.next (ev om) true ty))) := by
  obtain ⟨L, hL, hx⟩ := (hr.one h1 h4).inv_p
  obtain ⟨L', ob, e1, e2, e3⟩ := hh.blk n _ hn
  rw [hL] at e1; cases e1
  cases e3 with
  | si _ _ hl hb =>
    have hgo : (getObj L.b).run P w = .ok (.stringIter (strOf l) pos) w := by simp [getObj, Sem.run, e2]
    rcases hw with ⟨hd, rfl, rfl⟩ | ⟨c, r, hd, hc, rfl, rfl⟩
    · refine runTo_value (w1 := w) (v' := .tuple #[.bool false]) ?_ (.tu _ _ (.cons (.b false) .nil)) (Aft.refl hh)
      have hlt : ¬ pos < (strOf l).size := by rw [strOf_size]; have := List.drop_eq_nil_iff.1 hd; omega
      simp only [Instr.next, hx, hb]
      simp [hgo, hlt]
    · have hg : l[pos]? = some c := by
        have : (l.drop pos)[0]? = some c := by rw [hd]; rfl
        simpa using this
      have hlen : pos < l.length := (List.getElem?_eq_some_iff.1 hg).1
      have hge : l[pos] = c := (List.getElem?_eq_some_iff.1 hg).2
      have hlt : pos < (strOf l).size := by rw [strOf_size]; exact hlen
      have hby : ((strOf l)[pos]'hlt).toNat = c := by
        change ((strOf l).data[pos]'hlt).toNat = c
        simp only [strOf, List.getElem_toArray, List.getElem_map, hge]
        rw [UInt8.toNat_ofNat', Nat.mod_eq_of_lt (by omega)]
      have hdec := decode_ascii (strOf l) pos hlt (by rw [hby]; exact hc)
      obtain ⟨w1, e5, ha⟩ := setObj_run (k := k) hh hn hL e2 (by intro a t f e; cases e) (.si l (pos + 1)) (.stringIter (strOf l) (pos + 1)) (.si l (pos + 1) hl hb)
      refine runTo_value (w1 := w1) (v' := .tuple #[.bool true, .int .i64 (pos : Int), .int .i32 (c : Int)]) ?_ (.tu _ _ (.cons (.b true) (.cons (.i _ _) (.cons (.i _ _) .nil)))) ha
      simp only [Instr.next, hx, hb, Nat.add_zero, Sem.run_bind, hgo, Result.andThen_ok, hlt, if_true, hdec, hby, goInt]
      simp [e5]

/-! ### Slices -/
theorem cel_ones (hh : HR P dyn φ (fun p => h.get p) w) {n : Pos} {off sz : Nat} {r : List AV} (hr : cel h n off sz = some r) {L : Loc} (hL : φ n = some L) : ones r = true := by
  unfold cel at hr
  split at hr
  · rename_i l hl
    simp only [tak_eq, drp_eq] at hr
    rcases cond_eq_true hr with ⟨_, h2⟩ | ⟨_, h2⟩
    · cases h2
      rw [ones_iff]
      intro v hv
      obtain ⟨i, hi⟩ := List.mem_iff_getElem?.1 (List.mem_of_mem_drop (List.mem_of_mem_take hv))
      exact (rdc_cells hh hl hL i v hi).1
    · cases h2
  · cases hr
theorem fst_run2 (hh : HR P dyn φ (fun p => h.get p) w) {esz n : Nat} {x : AV} {x' : Value} {r : List AV} (hx : VR φ x x') (hr : fst h esz n x = some r) :
    ∃ vs, VRs φ r vs ∧ (Builtin.firstCells esz n x').run P w = .ok ⟨vs⟩ w ∧ ones r = true := by
  by_cases hs : ∃ l, x = .s l
  · obtain ⟨l, rfl⟩ := hs
    obtain ⟨rfl, hl⟩ := hx.inv_s
    simp only [fst, tak_eq, Option.some.injEq] at hr
    subst hr
    rw [each_bytes]
    have key : ∀ (l : List Nat), (∀ x ∈ l, x < 256) → VRs φ (l.map fun b => AV.i .u8 (.ofNat b)) (l.map fun (b : Nat) => Value.int .u8 (b : Int)) := by
      intro l
      induction l with
      | nil => intro _; exact .nil
      | cons b l ih => intro h; exact .cons (.i _ _) (ih fun x hx => h x (by simp [hx]))
    refine ⟨_, key (l.take n) (fun x hx => hl x (List.mem_of_mem_take hx)), ?_, ?_⟩
    · simp only [Builtin.firstCells, Sem.run_pure]
      congr 1
      apply Array.ext'
      simp only [Array.toList_map]
      have : ((strOf l).extract 0 n).data.toList = (l.take n).map UInt8.ofNat := by
        simp [strOf, ByteArray.extract, ByteArray.copySlice, List.map_take]
      rw [this, List.map_map]
      apply List.map_congr_left
      intro b hb
      have := hl b (List.mem_of_mem_take hb)
      simp [Nat.mod_eq_of_lt this]
    · rw [ones_iff]
      intro v hv
      obtain ⟨b, _, rfl⟩ := List.mem_map.1 hv
      rfl
  · obtain ⟨vs, e1, e2, e3⟩ := fst_run (P := P) hh hx hs hr
    refine ⟨vs, e1, e2, ?_⟩
    cases hx with
    | sl nm off l c L hL =>
      simp only [fst] at hr
      rcases cond_eq_true hr with ⟨_, hr⟩ | ⟨_, hr⟩
      · exact cel_ones hh hr hL
      · cases hr
    | su nm off l e L c hL hc hl he =>
      simp only [fst] at hr
      rcases cond_eq_true hr with ⟨_, hr⟩ | ⟨_, hr⟩
      · exact cel_ones hh hr hL
      · cases hr
    | se nm a c =>
      simp only [fst] at hr
      rcases cond_eq_true hr with ⟨_, hr⟩ | ⟨_, hr⟩ <;> cases hr
      rfl
    | sz =>
      simp only [fst] at hr
      rcases cond_eq_true hr with ⟨_, hr⟩ | ⟨_, hr⟩ <;> cases hr
      rfl
    | s l hl => exact absurd ⟨_, rfl⟩ hs
    | _ => cases hr
theorem vlen_run (w : World) {x : AV} {x' : Value} (hx : VR φ x x') {n : Nat} (h : vlen x = some n) : (Builtin.lenOf x').run P w = .ok n w := by
  cases hx <;> simp only [vlen, reduceCtorEq, Option.some.injEq] at h <;> subst h <;> simp [Builtin.lenOf, strOf_size, len_eq]
/-- nothing written. -/
theorem wrt_nil {n : Pos} {off : Nat} {h1 : TT AO} (hw : wrt h n off [] = some h1) : ∀ p, h1.get p = h.get p := by
  unfold wrt at hw
  split at hw
  · rename_i l o hn
    split at hw
    · rename_i l' hl'
      cases hw
      obtain ⟨_, rfl⟩ := over_eq _ _ _ _ hl'
      intro p
      rw [get_put]
      split
      · rename_i e; subst e; rw [hn]; simp
      · rfl
    · cases hw
  · cases hw
theorem Aft.same {hp : TT AO} (hh : HR P dyn φ (fun p => h.get p) w) (he : ∀ p, hp.get p = h.get p) : Aft P dyn φ h w k φ hp w k := by
  have : (fun p => hp.get p) = fun p => h.get p := funext he
  exact ⟨Grown.refl _ _, by rw [this]; exact hh, by rw [this]; exact Ext.refl _ _ _⟩

theorem ef_clearSlice (hr : RhoOk φ oc ρ ev) (hh : HR P dyn φ (fun p => h.get p) w) {t e ty : TypeId} {z : AV} {om : Operand} {cm : CV} (hu : P.underlying t = some (.slice e)) (hz : zeOf P e = some z) (ho : ones (cells z) = true)
    (h1 : oc om = some cm) {m : AV} (h4 : ρ cm = some m) {hp : TT AO}
    (hw : (m = .sz ∧ hp = h) ∨ (∃ n off c, m = .sl n off 0 c ∧ hp = h) ∨ ∃ n off l, ((∃ c, m = .sl n off l c) ∨ ∃ c, m = .su n off l c) ∧ wrt h n off (zer (cells z) l) = some hp) :
    RunTo P dyn φ h w k undf hp k (do pure (Next.value (← Builtin.clear_ #[t] ty #[ev om]))) := by
  have hm := hr.one h1 h4
  have nilcase : ∀ {m' : Value}, ev om = m' → (m' = .slice none 0 0 ∨ ∃ a c, m' = .slice (some a) 0 c) → (Builtin.clear_ #[t] ty #[ev om]).run P w = .ok (.tuple #[]) w := by
    intro m' he hm'
    rw [he]
    rcases hm' with rfl | ⟨a, c, rfl⟩ <;> simp [Builtin.clear_, run_underlying hu]
  rcases hw with ⟨rfl, rfl⟩ | ⟨n, off, c, rfl, rfl⟩ | ⟨n, off, l, hm', hw⟩
  · have hm : ev om = .slice none 0 0 := by generalize ev om = vm at hm; cases hm; rfl
    exact runTo_value (w1 := w) (v' := .tuple #[]) (nilcase hm (.inl rfl)) (.tu [] [] .nil) (Aft.refl hh)
  · have hm : ∃ a, ev om = .slice (some a) 0 c := by generalize ev om = vm at hm; cases hm; exact ⟨_, rfl⟩
    obtain ⟨a, hm⟩ := hm
    exact runTo_value (w1 := w) (v' := .tuple #[]) (nilcase hm (.inr ⟨a, c, rfl⟩)) (.tu [] [] .nil) (Aft.refl hh)
  · have hm : ∃ L c, φ n = some L ∧ ev om = .slice (some ⟨L.b, L.base + off, none⟩) l c := by
      rcases hm' with ⟨c, rfl⟩ | ⟨c, rfl⟩ <;> (generalize ev om = vm at hm; cases hm; exact ⟨_, _, by assumption, rfl⟩)
    obtain ⟨L, c, hL, hm⟩ := hm
    by_cases hl0 : l = 0
    · subst hl0
      rw [zer_zero] at hw
      exact runTo_value (w1 := w) (v' := .tuple #[]) (nilcase hm (.inr ⟨_, c, rfl⟩)) (.tu [] [] .nil) (Aft.same hh (wrt_nil hw))
    · obtain ⟨i, z', e0, e1, e2⟩ := zeOf_inv (φ := φ) hz
      have hzc := zer_run e2.cells l
      have hoz : ones (zer (cells z) l) = true := by
        rw [ones_iff]
        intro v hv
        exact (ones_iff _).1 ho v (zer_mem hv)
      obtain ⟨w1, e3, ha⟩ := wrt_run (k := k) hh hw hL hzc hoz
      refine runTo_value (w1 := w1) (v' := .tuple #[]) ?_ (.tu [] [] .nil) ha
      have hzz : (zeroValue e).run P w = .ok z' w := by simp [zeroValue, run_typeInfo _ e0, e1]
      have hzl : (Builtin.zeroCells z'.cells l).toList = (List.range (l * z'.cells.toList.length)).map fun i => z'.cells.toList[i % z'.cells.toList.length]! := by
        simp only [Builtin.zeroCells, Array.toList_map, Array.toList_range, Array.length_toList]
        exact List.map_congr_left fun i _ => arrGet z'.cells _
      rw [hm]
      obtain ⟨l', rfl⟩ : ∃ l', l = l' + 1 := ⟨l - 1, by omega⟩
      simp only [Builtin.clear_, List.getElem?_toArray, List.getElem?_cons_zero, Sem.run_bind, run_underlying hu, Result.andThen_ok, hzz, hzl, e3]
      rfl

theorem fst_zero {esz : Nat} {b : AV} {r : List AV} (hf : fst h esz 0 b = some r) : r = [] := by
  have hcel : ∀ {n off : Nat} {nm : Pos}, n = 0 → cel h nm off n = some r → r = [] := by
    intro n off nm h0 hr
    subst h0
    unfold cel at hr
    split at hr
    · simp only [tak_eq, List.take_zero] at hr
      rcases cond_eq_true hr with ⟨_, hr⟩ | ⟨_, hr⟩ <;> cases hr
      rfl
    · cases hr
  unfold fst at hf
  split at hf
  · rcases cond_eq_true hf with ⟨_, hf⟩ | ⟨_, hf⟩
    · exact hcel (Nat.zero_mul _) hf
    · cases hf
  · rcases cond_eq_true hf with ⟨_, hf⟩ | ⟨_, hf⟩
    · exact hcel (Nat.zero_mul _) hf
    · cases hf
  · rcases cond_eq_true hf with ⟨_, hf⟩ | ⟨_, hf⟩ <;> cases hf; rfl
  · rcases cond_eq_true hf with ⟨_, hf⟩ | ⟨_, hf⟩ <;> cases hf; rfl
  · simp only [tak_eq, List.take_zero] at hf; cases hf; rfl
  · cases hf

theorem ef_copy (hr : RhoOk φ oc ρ ev) (hh : HR P dyn φ (fun p => h.get p) w) {t t2 e ty : TypeId} {esz : Nat} {oa ob : Operand} {ca cb : CV} (hu : P.underlying t = some (.slice e)) (hs : szOf P e = some esz)
    (h1 : oc oa = some ca) (h2 : oc ob = some cb) {a b : AV} (h3 : ρ ca = some a) (h4 : ρ cb = some b) {x y : Nat} (hx : vlen a = some x) (hy : vlen b = some y) {l : List AV} (hf : fst h esz (min y x) b = some l) {v : AV} {hp : TT AO}
    (hw : ((∃ n off, ((∃ l c, a = .sl n off l c) ∨ ∃ l c, a = .su n off l c) ∧ wrt h n off l = some hp) ∧ v = .i .i64 (.ofNat (min y x))) ∨ ((a = .sz ∨ ∃ n, a = .se n) ∧ v = .i .i64 0 ∧ hp = h)) :
    RunTo P dyn φ h w k v hp k (do pure (Next.value (← Builtin.copy_ #[t, t2] ty #[ev oa, ev ob]))) := by
  have ha := hr.one h1 h3
  have hb := hr.one h2 h4
  obtain ⟨vs, e1, e2, e3⟩ := fst_run2 (P := P) hh hb hf
  have ely := vlen_run (P := P) w hb hy
  rcases hw with ⟨⟨n, off, hav, hw⟩, rfl⟩ | ⟨hav, rfl, rfl⟩
  · have hm : ∃ L c, φ n = some L ∧ ev oa = .slice (some ⟨L.b, L.base + off, none⟩) x c := by
      rcases hav with ⟨l, c, rfl⟩ | ⟨l, c, rfl⟩ <;> (simp only [vlen, Option.some.injEq] at hx; subst hx; generalize ev oa = vm at ha; cases ha; exact ⟨_, _, by assumption, rfl⟩)
    obtain ⟨L, c, hL, hm⟩ := hm
    obtain ⟨w1, e4, hA⟩ := wrt_run (k := k) hh hw hL e1 e3
    refine runTo_value (w1 := w1) (v' := goInt ((min y x : Nat) : Int)) ?_ (.i _ _) hA
    rw [hm]
    have : Nat.min y x = min y x := rfl
    simp [Builtin.copy_, run_underlying hu, ely, run_size hs, this, e2, e4]
  · have hx0 : x = 0 := by rcases hav with rfl | ⟨n, rfl⟩ <;> (simp only [vlen, Option.some.injEq] at hx; exact hx.symm)
    subst hx0
    have hmin : Nat.min y 0 = 0 := Nat.min_zero y
    have hmin' : min y 0 = 0 := Nat.min_zero y
    rw [hmin'] at hf e2
    have hm : ev oa = .slice none 0 0 ∨ ∃ ad c, ev oa = .slice (some ad) 0 c := by
      rcases hav with rfl | ⟨n, rfl⟩ <;> (generalize ev oa = vm at ha; cases ha)
      · exact .inl rfl
      · exact .inr ⟨_, _, rfl⟩
    have hvs : vs = [] := by
      have := fst_zero hf
      subst this
      cases e1
      rfl
    subst hvs
    refine runTo_value (w1 := w) (v' := goInt 0) ?_ (.i _ _) (Aft.refl hh)
    rcases hm with hm | ⟨ad, c, hm⟩
    · rw [hm]
      simp [Builtin.copy_, run_underlying hu, ely, run_size hs, e2]
    · rw [hm]
      simp [Builtin.copy_, run_underlying hu, ely, run_size hs, e2, storeCells]
end
end Go.Ev
namespace Go.Ev
open Go

section
variable {P : Program} {dyn : List TypeId} {φ : Phi} {oc : Operand → Option CV} {ρ : Rho} {ev : Operand → Value} {h : TT AO} {w : World} {k : Pos}

theorem growBy_le (need : Nat) : ∀ (r c : Nat), c ≤ need → Builtin.growBy need r c ≤ 2 * need + 768
  | 0, c, h => by simp only [Builtin.growBy]; omega
  | r + 1, c, h => by
    simp only [Builtin.growBy]
    split
    · omega
    · by_cases h2 : c + (c + 768) / 4 ≤ need
      · exact growBy_le need r _ h2
      · cases r with
        | zero => simp only [Builtin.growBy]; omega
        | succ r =>
          simp only [Builtin.growBy]
          rw [if_pos (by omega)]
          omega
theorem nextslicecap_le {need c : Nat} (h : c < need) : Builtin.nextslicecap need c ≤ 2 * need + 768 := by
  unfold Builtin.nextslicecap
  split
  · omega
  · split
    · omega
    · exact growBy_le need 4 c (by omega)

/-- an append that takes a new block. -/
theorem append_grow (_hh : HR P dyn φ (fun p => h.get p) w) {t t2 e ty : TypeId} {y : TypeDesc} {esz bytes : Nat} {z : AV} (hu : P.underlying t = some (.slice e)) (hu2 : P.underlying t2 = some y) (hyi : apOk y = true)
    (hs : szOf P e = some esz) (hby : (P.info? e).map (·.bytes) = some bytes) (hz : zeOf P e = some z) (hsz : (cells z).length = esz) (_hs0 : esz ≠ 0) (hb0 : bytes ≠ 0) (_hoz : ones (cells z) = true)
    {base : Option Addr} {sLen sCap n : Nat} {x : Value} {old new : List AV} {vo vn : List Value} (hn : (Builtin.lenOf x).run P w = .ok n w)
    (h1 : VRs φ old vo) (h2 : (Builtin.firstCells esz sLen (.slice base sLen sCap)).run P w.drew = .ok ⟨vo⟩ w.drew) (h1n : VRs φ new vn) (h2n : (Builtin.firstCells esz n x).run P w.drew = .ok ⟨vn⟩ w.drew) (oo : ones old = true) (on : ones new = true)
    (hlo : old.length = sLen * esz) (hln : new.length = n * esz) (hgt : sCap < sLen + n) (hle : (sLen + n) * bytes ≤ 1048576) :
    ∃ c arr, sLen + n ≤ c ∧ arr.size = c * esz ∧ (Builtin.append_ #[t, t2] ty #[.slice base sLen sCap, x]).run P w = .ok (.slice (some ⟨w.heap.size, 0, none⟩) (sLen + n) c) (w.drew.alloc (.cells arr e)) ∧
      (∀ (i : Nat) (v : AV), (old ++ new)[i]? = some v → oneC v = true ∧ ∃ v', arr[i]? = some v' ∧ VR φ v v') := by
  obtain ⟨i, z', e0, e1, e2⟩ := zeOf_inv (φ := φ) hz
  have hib : i.bytes = bytes := by rw [e0] at hby; simpa using hby
  have his : i.size = esz := by simpa [szOf, e0] using hs
  have hzl : z'.cells.size = esz := by rw [← Array.length_toList, ← e2.cells.length]; exact hsz
  have hzz : (zeroValue e).run P w.drew = .ok z' w.drew := by simp [zeroValue, run_typeInfo _ e0, e1]
  have hge := grownCap_ge w (sLen + n) sCap e
  have hp1 : 1 ≤ bytes := Nat.pos_of_ne_zero hb0
  have hb2 : bytes ≤ 1048576 := by
    have : 1 * bytes ≤ (sLen + n) * bytes := Nat.mul_le_mul_right _ (by omega)
    omega
  have hnl : sLen + n ≤ 1048576 := Nat.le_trans (Nat.le_mul_of_pos_right _ hp1) hle
  have hcap : Builtin.nextslicecap (sLen + n) sCap * bytes ≤ 2 ^ 48 := by
    have h3 := nextslicecap_le hgt
    have h4 : Builtin.nextslicecap (sLen + n) sCap * bytes ≤ (2 * (sLen + n) + 768) * bytes := Nat.mul_le_mul_right _ h3
    have h5 : (2 * (sLen + n) + 768) * bytes = 2 * ((sLen + n) * bytes) + 768 * bytes := by rw [Nat.add_mul, Nat.mul_assoc]
    omega
  let arr : Array Value := ⟨vo⟩ ++ ⟨vn⟩ ++ Builtin.zeroCells z'.cells (grownCap w (sLen + n) sCap e - (sLen + n))
  refine ⟨grownCap w (sLen + n) sCap e, arr, hge, ?_, ?_, ?_⟩
  · have h3 := h1.length
    have h4 := h1n.length
    have : arr.size = vo.length + vn.length + (grownCap w (sLen + n) sCap e - (sLen + n)) * z'.cells.size := by simp [arr, Builtin.zeroCells, Nat.add_assoc]
    rw [this, hzl, ← h3, ← h4, hlo, hln, ← Nat.add_mul, ← Nat.add_mul]
    congr 1
    omega
  · have hn1 : ¬ (sLen + n ≤ sCap) := by omega
    have h63' : ¬ (9223372036854775807 < ((sLen : Int) + (n : Int))) := by omega
    have hib0 : ¬ (i.bytes = 0) := by rw [hib]; exact hb0
    have hcap' : ¬ (281474976710656 < Builtin.nextslicecap (sLen + n) sCap * i.bytes) := by rw [hib]; omega
    have hti : ∀ w, (typeInfo e).run P w = .ok i w := fun w => run_typeInfo w e0
    have hsz2 : ∀ w, (sizeOf e).run P w = .ok esz w := fun w => run_size hs w
    have hask : ∀ (b : Nat) (w : World), (askRoom b).run P w = .ok () w := by
      intro b w
      unfold askRoom
      split <;> rfl
    have hch : (choose (.appendCap (sLen + n) sCap e)).run P w = .ok (grownCap w (sLen + n) sCap e) w.drew := by simp [Question.forced, grownCap]
    have hy : (∃ u, y = .slice u) ∨ y = .string := by cases y <;> first | exact .inl ⟨_, rfl⟩ | exact .inr rfl | cases hyi
    rcases hy with ⟨u, rfl⟩ | rfl <;>
    · unfold Builtin.append_
      simp only [List.getElem?_toArray, List.getElem?_cons_zero, List.getElem?_cons_succ, Sem.run_bind, run_underlying hu, run_underlying hu2, Result.andThen_ok, hsz2, Sem.run_pure, hn, Bool.false_eq_true, if_false, hn1]
      simp [hti, h63', hcap', hask, h2, h2n, hzz, newRow, arr, Array.append_assoc, Question.forced, grownCap]
  · intro i v hi
    refine ⟨?_, ?_⟩
    · have : v ∈ old ++ new := List.mem_of_getElem? hi
      rcases List.mem_append.1 this with hm | hm
      · exact (ones_iff _).1 oo v hm
      · exact (ones_iff _).1 on v hm
    · obtain ⟨v', h3, h4⟩ := (h1.append h1n).get i v hi
      refine ⟨v', ?_, h4⟩
      have hlt : i < (vo ++ vn).length := (List.getElem?_eq_some_iff.1 h3).1
      simp only [arr]
      rw [Array.getElem?_append]
      rw [if_pos (by simpa using hlt)]
      simpa using h3

/-- an append into what lies there. -/
theorem append_fit {t t2 e ty : TypeId} {y : TypeDesc} {esz : Nat} (hu : P.underlying t = some (.slice e)) (hu2 : P.underlying t2 = some y) (hyi : apOk y = true) (hs : szOf P e = some esz)
    {base : Option Addr} {sLen sCap n : Nat} {x : Value} {vn : List Value} (hn : (Builtin.lenOf x).run P w = .ok n w) (h2n : (Builtin.firstCells esz n x).run P w = .ok ⟨vn⟩ w) (hle : sLen + n ≤ sCap) {w1 : World}
    (hst : match base with | none => w1 = w | some a => (storeCells (a.add (sLen * esz)) vn).run P w = .ok () w1) :
    (Builtin.append_ #[t, t2] ty #[.slice base sLen sCap, x]).run P w = .ok (.slice base (sLen + n) sCap) w1 := by
  have hsz2 : ∀ w, (sizeOf e).run P w = .ok esz w := fun w => run_size hs w
  have hy : (∃ u, y = .slice u) ∨ y = .string := by cases y <;> first | exact .inl ⟨_, rfl⟩ | exact .inr rfl | cases hyi
  rcases hy with ⟨u, rfl⟩ | rfl <;>
  · unfold Builtin.append_
    simp only [List.getElem?_toArray, List.getElem?_cons_zero, List.getElem?_cons_succ, Sem.run_bind, run_underlying hu, run_underlying hu2, Result.andThen_ok, hsz2, Sem.run_pure, hn, Bool.false_eq_true, if_false, hle]
    cases base with
    | none => simp only at hst; subst hst; simp [h2n]
    | some a => simp only at hst; simp [h2n, hst]

theorem grow_aft (hh : HR P dyn φ (fun p => h.get p) w) (hk : φ k = none) {h2 : TT AO} (hsub : ∀ n o, h2.get n = some o → h.get n = some o) {e : TypeId} {l : List AV} {arr : Array Value} {c esz : Nat} (hsz : arr.size = c * esz) (hl : l.length ≤ c * esz)
    (hc : ∀ (i : Nat) (v : AV), l[i]? = some v → oneC v = true ∧ ∃ v', arr[i]? = some v' ∧ VR φ v v') :
    Aft P dyn φ h w k (upL φ k ⟨w.heap.size, 0, c * esz⟩) (h2.put k (some (.c l true))) (w.drew.alloc (.cells arr e)) k.succ := by
  have hh2 : HR P dyn φ (fun p => h2.get p) w := hh.less hsub
  obtain ⟨f1, f2⟩ := hh2.fresh (w' := w.drew.alloc (.cells arr e)) hk (.c l true) (.cells arr e) 0 (c * esz) (by simp) (fun b hb => heap_alloc_lt w.drew _ hb) (heap_alloc_new w.drew _) rfl rfl rfl
    (.c l true arr e (by simp [hsz]) hl (fun e => by cases e) (fun i v hi => by
      obtain ⟨h1, v', h2, h3⟩ := hc i v hi
      exact ⟨h1, v', by simpa using h2, h3.mono (upL_le _ hk)⟩))
  refine ⟨upL_grown _ _ _, f1, f2.sz, f2.os, f2.out, f2.tape, fun b hb _ => heap_alloc_lt w.drew _ hb, fun b hb hi => ?_⟩
  obtain ⟨n, o, L, a1, a2, a3⟩ := f2.im b hb hi
  exact ⟨n, o, L, hsub _ _ a1, a2, a3⟩

theorem ef_append (hr : RhoOk φ oc ρ ev) (hh : HR P dyn φ (fun p => h.get p) w) {t t2 e ty : TypeId} {y : TypeDesc} {esz bytes : Nat} {z : AV} (hu : P.underlying t = some (.slice e)) (hu2 : P.underlying t2 = some y) (hyi : apOk y = true)
    (hs : szOf P e = some esz) (hby : (P.info? e).map (·.bytes) = some bytes) (hz : zeOf P e = some z) (hsz : (cells z).length = esz) (hs0 : esz ≠ 0) (hb0 : bytes ≠ 0) (hoz : ones (cells z) = true)
    {oa ob : Operand} {ca cb : CV} (h1 : oc oa = some ca) (h2 : oc ob = some cb) {a b : AV} (h3 : ρ ca = some a) (h4 : ρ cb = some b) {v : AV} {hp : TT AO} {k1 : Pos} (hw : apnd esz bytes h k a b = some (v, hp, k1)) :
    (k1 = k ∨ k1 = k.succ) ∧ (New φ k k1 → RunTo P dyn φ h w k v hp k1 (do pure (Next.value (← Builtin.append_ #[t, t2] ty #[ev oa, ev ob])))) := by
  have ha := hr.one h1 h3
  have hb := hr.one h2 h4
  unfold apnd at hw
  split at hw
  · cases hw
  rename_i n hn
  split at hw
  · cases hw
  rename_i new hf
  rcases cond_eq_true hw with ⟨_, hw⟩ | ⟨hlen, hw⟩
  · cases hw
  rw [len_eq, beq_iff] at hlen
  have hlen : new.length = n * esz := by simpa using hlen
  have hln := vlen_run (P := P) w hb hn
  have hhd : HR P dyn φ (fun p => h.get p) w.drew := hh.heap_eq fun _ _ _ _ _ => rfl
  obtain ⟨vn, e1, e2, e3⟩ := fst_run2 (P := P) hh hb hf
  obtain ⟨vnd, e1d, e2d, _⟩ := fst_run2 (P := P) hhd hb hf
  have hnil : n = 0 → new = [] ∧ vn = [] := by
    intro h0
    subst h0
    have : new = [] := List.length_eq_zero_iff.1 (by rw [hlen]; exact Nat.zero_mul _)
    subst this
    cases e1
    exact ⟨rfl, rfl⟩
  have grow : ∀ {base : Option Addr} {sLen sCap : Nat} {old : List AV} {vo : List Value} {h2 : TT AO} (_ : ev oa = .slice base sLen sCap) (_ : φ k = none) (_ : ∀ n o, h2.get n = some o → h.get n = some o)
      (_ : VRs φ old vo) (_ : (Builtin.firstCells esz sLen (.slice base sLen sCap)).run P w.drew = .ok ⟨vo⟩ w.drew) (_ : ones old = true) (_ : old.length = sLen * esz) (_ : sCap < sLen + n) (_ : (sLen + n) * bytes ≤ 1048576),
      RunTo P dyn φ h w k (.su k 0 (sLen + n) esz) (h2.put k (some (.c (old ++ new) true))) k.succ (do pure (Next.value (← Builtin.append_ #[t, t2] ty #[ev oa, ev ob]))) := by
    intro base sLen sCap old vo h2 he hk hsub hvo hfo hoo hlo hgt hle
    obtain ⟨c, arr, g1, g2, g3, g4⟩ := append_grow (ty := ty) hh hu hu2 hyi hs hby hz hsz hs0 hb0 hoz hln hvo hfo e1d e2d hoo e3 hlo hlen hgt hle
    have hA := grow_aft (e := e) hh hk hsub g2 (by rw [List.length_append, hlo, hlen, ← Nat.add_mul]; exact Nat.mul_le_mul_right _ g1) g4
    rw [he]
    refine runTo_value g3 ?_ hA
    have := VR.su (φ := upL φ k ⟨w.heap.size, 0, c * esz⟩) k 0 (sLen + n) esz ⟨w.heap.size, 0, c * esz⟩ c (upL_same _ _ _) (by simp) g1 (Nat.pos_of_ne_zero hs0)
    simpa using this
  cases a with
  | sz =>
    have ha : ev oa = .slice none 0 0 := by generalize ev oa = va at ha; cases ha; rfl
    simp only at hw
    rcases cond_eq_true hw with ⟨h0, hw⟩ | ⟨h0, hw⟩
    · rw [beq_iff] at h0
      have h0 : n = 0 := by simpa using h0
      cases hw
      refine ⟨.inl rfl, fun _ => ?_⟩
      rw [ha]
      refine runTo_value (append_fit hu hu2 hyi hs hln e2 (by omega) rfl) ?_ (Aft.refl hh)
      rw [h0]
      exact .sz
    · rw [beq_iff] at h0
      have h0 : ¬ n = 0 := by simpa using h0
      rcases cond_eq_true hw with ⟨hle, hw⟩ | ⟨_, hw⟩
      · cases hw
        rw [ble_iff] at hle
        have hle : n * bytes ≤ 1048576 := by simpa using hle
        refine ⟨.inr rfl, fun hnew => ?_⟩
        have := grow (old := []) (vo := []) (h2 := h) ha hnew.at (fun _ _ h => h) .nil (by simp [Builtin.firstCells]) rfl (by simp) (by omega) (by simpa using hle)
        simpa using this
      · cases hw
  | sl nm off l c =>
    obtain ⟨L, hL, ha⟩ : ∃ L, φ nm = some L ∧ ev oa = .slice (some ⟨L.b, L.base + off, none⟩) l c := by generalize ev oa = va at ha; cases ha; exact ⟨_, by assumption, rfl⟩
    simp only at hw
    rcases cond_eq_true hw with ⟨hle, hw⟩ | ⟨hle, hw⟩
    · rw [ble_iff] at hle
      have hle : l + n ≤ c := by simpa using hle
      split at hw
      · rename_i hq hwr
        cases hw
        obtain ⟨w1, e5, hA⟩ := wrt_run (k := k) hh hwr hL e1 e3
        refine ⟨.inl rfl, fun _ => ?_⟩
        rw [ha]
        refine runTo_value (append_fit (w1 := w1) hu hu2 hyi hs hln e2 hle ?_) (.sl nm off (l + n) c L hL) hA
        simp only [add_plain]
        rw [Nat.add_assoc]
        exact e5
      · cases hw
    · rw [ble_iff] at hle
      have hle : ¬ l + n ≤ c := by simpa using hle
      split at hw
      · rename_i old hc
        rcases cond_eq_true hw with ⟨hle2, hw⟩ | ⟨_, hw⟩
        · cases hw
          rw [ble_iff] at hle2
          have hle2 : (l + n) * bytes ≤ 1048576 := by simpa using hle2
          obtain ⟨vo, f1, f2, f3⟩ := cel_run (P := P) hhd hc hL
          refine ⟨.inr rfl, fun hnew => ?_⟩
          rw [app_eq]
          exact grow ha hnew.at (fun _ _ h => h) f1 (by simpa [Builtin.firstCells] using f2) (cel_ones hh hc hL) f3 (by omega) hle2
        · cases hw
      · cases hw
  | su nm off l ez =>
    obtain ⟨L, c, hL, hcap, hlc, hez, ha⟩ : ∃ L c, φ nm = some L ∧ off + c * ez = L.ext ∧ l ≤ c ∧ 0 < ez ∧ ev oa = .slice (some ⟨L.b, L.base + off, none⟩) l c := by
      generalize ev oa = va at ha; cases ha; exact ⟨_, _, by assumption, by assumption, by assumption, by assumption, rfl⟩
    simp only at hw
    rcases cond_eq_true hw with ⟨h0, hw⟩ | ⟨h0, hw⟩
    · rw [beq_iff] at h0
      have h0 : n = 0 := by simpa using h0
      cases hw
      refine ⟨.inl rfl, fun _ => ?_⟩
      rw [ha]
      obtain ⟨_, hv0⟩ := hnil h0
      refine runTo_value (append_fit (w1 := w) hu hu2 hyi hs hln e2 (by omega) ?_) ?_ (Aft.refl hh)
      · subst hv0; rfl
      · rw [h0]; exact .su nm off l ez L c hL hcap hlc hez
    · split at hw
      · rename_i cs hget
        rcases cond_eq_true hw with ⟨hcond, hw⟩ | ⟨_, hw⟩
        · cases hw
          simp only [Bool.and_eq_true, len_eq] at hcond
          obtain ⟨⟨hc1, hc2⟩, hc3⟩ := hcond
          rw [beq_iff] at hc1 hc2
          rw [ble_iff] at hc3
          have hc1 : off + l * esz = cs.length := by simpa using hc1
          have hc2 : ez = esz := by simpa using hc2
          have hc3 : (l + n) * bytes ≤ 1048576 := by simpa using hc3
          subst hc2
          refine ⟨.inr rfl, fun hnew => ?_⟩
          have hk := hnew.at
          rw [app_eq, drp_eq]
          have hsub : ∀ (n' : Pos) (o : AO), (h.put nm none).get n' = some o → h.get n' = some o := by
            intro n' o hn'
            rw [get_put] at hn'
            split at hn'
            · cases hn'
            · exact hn'
          have hold : (cs.drop off).length = l * ez := by simp; omega
          have hcel : cel h nm off (l * ez) = some (cs.drop off) := by
            unfold cel rdc
            rw [hget]
            simp only [tak_eq, drp_eq, len_eq]
            have : (cs.drop off).take (l * ez) = cs.drop off := List.take_of_length_le (by rw [hold]; exact Nat.le_refl _)
            rw [this, hold]
            simp
          by_cases hfit : l + n ≤ c
          · obtain ⟨L', ob', a1, a2, a3⟩ := hh.blk nm _ hget
            rw [hL] at a1; cases a1
            cases a3 with
            | c _ _ arr tt hss hll hopn hcc =>
              have hmul : (l + n) * ez ≤ c * ez := Nat.mul_le_mul_right _ hfit
              rw [Nat.add_mul] at hmul
              have hvl := e1.length
              have hrun := run_storeCells_at P L.b (L.base + off + l * ez) tt vn 0 arr w a2 (by omega) (fun v' hv' => by
                obtain ⟨i, hi⟩ := List.mem_iff_getElem?.1 hv'
                have hi2 : i < new.length := by rw [hvl]; exact (List.getElem?_eq_some_iff.1 hi).1
                obtain ⟨v'', g2, g3⟩ := e1.get i new[i] (List.getElem?_eq_getElem hi2)
                rw [hi] at g2; cases g2
                rw [g3.oneCell]
                exact (ones_iff new).1 e3 _ (List.getElem_mem hi2))
              simp only [Nat.add_zero] at hrun
              rw [ha]
              refine runTo_value (φ1 := upL φ k ⟨L.b, L.base + off, L.ext - off⟩) (append_fit (w1 := _) hu hu2 hyi hs hln e2 hfit (by simp only [add_plain]; exact hrun)) ?_ ?_
              · have := VR.su (φ := upL φ k ⟨L.b, L.base + off, L.ext - off⟩) k 0 (l + n) ez ⟨L.b, L.base + off, L.ext - off⟩ c (upL_same _ _ _) (by simp; omega) hfit hez
                simpa using this
              · have hal : (arr.toList.take (L.base + off + l * ez) ++ vn ++ arr.toList.drop (L.base + off + l * ez + vn.length)).length = arr.size := by simp; omega
                have hgetk : ∀ (m : Pos) (x : AO), m ≠ k → ((h.put nm none).put k (some (.c (cs.drop off ++ new) true))).get m = some x → m ≠ nm ∧ h.get m = some x := by
                  intro m x hmk hm
                  rw [get_put, if_neg hmk, get_put] at hm
                  split at hm
                  · cases hm
                  · rename_i hne; exact ⟨hne, hm⟩
                have hother : ∀ (m : Pos) (x : AO) (M : Loc), m ≠ k → ((h.put nm none).put k (some (.c (cs.drop off ++ new) true))).get m = some x → φ m = some M → M.b ≠ L.b := by
                  intro m x M hmk hm hM e
                  obtain ⟨hne, hm⟩ := hgetk m x hmk hm
                  exact hne (hh.inj m nm x _ M L hm hget hM hL e)
                refine ⟨upL_grown _ _ _, ?_, ?_⟩
                · refine hh.step (upL_le _ hk) k (.c (cs.drop off ++ new) true) ⟨L.b, L.base + off, L.ext - off⟩ _ (fun m x hmk hm => (hgetk m x hmk hm).2) (by simp [get_put]) (upL_same _ _ _) (setRow_heap w L.b arr _ tt (0, 0) a2) ?_
                    (fun m x M hmk hm hM => ⟨hother m x M hmk hm hM, setRow_other w L.b M.b _ (hother m x M hmk hm hM)⟩)
                  refine .c _ true _ tt ?_ ?_ (fun e => by cases e) (fun i v hi => ?_)
                  · rw [List.size_toArray, hal]; simp; omega
                  · simp; omega
                  · rw [List.getElem?_append] at hi
                    rw [List.getElem?_toArray, seg_get arr.toList vn (L.base + off + l * ez) (by simp; omega)]
                    split at hi
                    · rename_i hlt
                      rw [hold] at hlt
                      simp only
                      rw [if_pos (by omega)]
                      rw [List.getElem?_drop] at hi
                      obtain ⟨g1, v', g2, g3⟩ := hcc (off + i) v hi
                      refine ⟨g1, v', ?_, g3.mono (upL_le _ hk)⟩
                      rw [Nat.add_assoc]
                      simpa using g2
                    · rename_i hlt
                      rw [hold] at hlt hi
                      have hlt2 : i - l * ez < new.length := (List.getElem?_eq_some_iff.1 hi).1
                      simp only
                      rw [if_neg (by omega), if_pos (by omega)]
                      obtain ⟨v', g2, g3⟩ := e1.get _ v hi
                      refine ⟨(ones_iff new).1 e3 v (List.mem_of_getElem? hi), v', ?_, g3.mono (upL_le _ hk)⟩
                      rw [show L.base + off + i - (L.base + off + l * ez) = i - l * ez by omega]
                      exact g2
                · refine ⟨by simp, rfl, rfl, rfl, fun b hb hi => setRow_other w L.b b _ (fun e => hi ⟨nm, _, L, hget, hL, e.symm⟩), fun b hb hi => ?_⟩
                  obtain ⟨m, x, M, hm, hM, rfl⟩ := hi
                  by_cases hmk : m = k
                  · subst hmk
                    rw [upL_same] at hM; cases hM
                    exact ⟨nm, _, L, hget, hL, rfl⟩
                  · rw [upL_other _ _ hmk] at hM
                    exact ⟨m, x, M, (hgetk m x hmk hm).2, hM, rfl⟩
          · obtain ⟨vo, f1, f2, f3⟩ := cel_run (P := P) hhd hcel hL
            exact grow ha hk hsub f1 (by simpa [Builtin.firstCells] using f2) (cel_ones hh hcel hL) hold (by omega) hc3
        · cases hw
      · cases hw
  | se nm =>
    obtain ⟨ad, c, ha⟩ : ∃ ad c, ev oa = .slice (some ad) 0 c := by generalize ev oa = va at ha; cases ha; exact ⟨_, _, rfl⟩
    simp only at hw
    rcases cond_eq_true hw with ⟨h0, hw⟩ | ⟨h0, hw⟩
    · rw [beq_iff] at h0
      have h0 : n = 0 := by simpa using h0
      cases hw
      refine ⟨.inl rfl, fun _ => ?_⟩
      rw [ha]
      obtain ⟨_, hv0⟩ := hnil h0
      refine runTo_value (append_fit (w1 := w) hu hu2 hyi hs hln e2 (by omega) ?_) ?_ (Aft.refl hh)
      · subst hv0; rfl
      · rw [h0]; exact .se nm ad c
    · cases hw
  | _ => cases hw
end
end Go.Ev
namespace Go.Ev
open Go

def plainE : EfOp → Bool
  | .ca _ _ | .iv _ _ _ | .df _ _ => false
  | _ => true
theorem RunTo.congr {P : Program} {dyn : List TypeId} {φ : Phi} {h : TT AO} {w : World} {k : Pos} {v : AV} {h1 : TT AO} {k1 : Pos} {s s' : Sem Next} (e : s'.run P w = s.run P w) (hr : RunTo P dyn φ h w k v h1 k1 s) : RunTo P dyn φ h w k v h1 k1 s' := by
  obtain ⟨φ1, w1, nx, v', a, b⟩ := hr
  exact ⟨φ1, w1, nx, v', e.trans a, b⟩
/-- a plain effect: what the evaluator does, whatever comes behind, and that the model does it too. -/
def EfOk (P : Program) (dyn : List TypeId) (oc : Operand → Option CV) (ρ : Rho) (o : Oper) (p : EfOp) (h : TT AO) (k : Pos) : Prop :=
  ∃ v h1 k1, (∀ (s : Sf) (D : List AD) (K : KT), evEf s ρ p D h k K = K v D h1 k1) ∧ (k1 = k ∨ k1 = k.succ) ∧
    ∀ (φ : Phi) (ev : Operand → Value) (w : World), RhoOk φ oc ρ ev → HR P dyn φ (fun p => h.get p) w → New φ k k1 → RunTo P dyn φ h w k v h1 k1 (execOp ev o)

section
variable {P : Program} {dyn : List TypeId} {oc : Operand → Option CV} {ρ : Rho} {h : TT AO} {k : Pos} {s : Sf} {D : List AD} {K : KT} {x : X} {F' : TT AV} {D' : List AD} {h' : TT AO} {k' : Pos}

theorem ok_store {dst : Option Tmp} {ty : TypeId} {ps : String} {aft : Array Edge} {g : Option (Nat × Bool)} {t : TypeId} {oa ov : Operand} {p : EfOp} (hc : compOper P dyn oc ⟨dst, .store t oa ov, ty, ps, aft, g⟩ = some (.ef p))
    (he : evEf s ρ p D h k K = .go x F' D' h' k') : EfOk P dyn oc ρ ⟨dst, .store t oa ov, ty, ps, aft, g⟩ p h k := by
  simp only [compOper] at hc
  split at hc
  · rename_i sz ca cv hs h1 h2
    cases hc
    simp only [evEf] at he
    split at he
    · rename_i n off v h3 h4
      rcases cond_eq_true he with ⟨hb, he⟩ | ⟨_, he⟩
      · have hb' := hb
        simp only [Bool.and_eq_true, len_eq] at hb
        obtain ⟨hl, ho⟩ := hb
        rw [beq_iff] at hl
        split at he
        · rename_i hp hw
          refine ⟨undf, hp, k, fun s D K => by simp only [evEf, h3, h4, hb', hw, cond_true], .inl rfl, fun φ ev w hr hh _ => ?_⟩
          exact (ef_store hr hh hs h1 h2 h3 h4 (by simpa using hl) ho hw).congr rfl
        · cases he
      · cases he
    · cases he
  · cases hc

theorem ok_update {t : TypeId} {om ok ov : Operand} {p : EfOp} {o : Oper} (ho : ∀ ev : Operand → Value, execOp ev o = (do Instr.mapUpdate t (ev om) (ev ok) (ev ov); pure .skip))
    (hc : (match P.underlying t, oc om, oc ok, oc ov with
      | some (.map kt _), some m, some k, some v => (eshOf P 12 kt).map fun e => COp.ef (.mu e m k v)
      | _, _, _, _ => none) = some (.ef p))
    (he : evEf s ρ p D h k K = .go x F' D' h' k') : EfOk P dyn oc ρ o p h k := by
  split at hc
  · rename_i kt et cm ck cv hu h1 h2 h3
    obtain ⟨e, hE, hp⟩ := Option.map_eq_some_iff.1 hc
    cases hp
    simp only [evEf] at he
    split at he
    · rename_i m y v h4 h5 h6
      split at he
      · rename_i hp hw
        refine ⟨undf, hp, k, fun s D K => by simp only [evEf, h4, h5, h6, hw], .inl rfl, fun φ ev w hr hh _ => ?_⟩
        exact (ef_update hr hh hu hE h1 h2 h3 h4 h5 h6 hw).congr (by rw [ho])
      · cases he
    · cases he
  · cases hc

theorem ok_range {dst : Option Tmp} {ty : TypeId} {ps : String} {aft : Array Edge} {g : Option (Nat × Bool)} {t : TypeId} {om : Operand} {p : EfOp} (hc : compOper P dyn oc ⟨dst, .range t om, ty, ps, aft, g⟩ = some (.ef p))
    (he : evEf s ρ p D h k K = .go x F' D' h' k') : EfOk P dyn oc ρ ⟨dst, .range t om, ty, ps, aft, g⟩ p h k := by
  simp only [compOper] at hc
  split at hc
  · rename_i kt et cm hu h1
    cases hc
    simp only [evEf] at he
    split at he
    · rename_i h4
      exact ⟨.p k 0, h.put k (some .itz), k.succ, fun s D K => by simp only [evEf, h4], .inr rfl, fun φ ev w hr hh hn => (ef_range hr hh hn.at hu h1 h4 (.inl ⟨rfl, rfl⟩)).congr rfl⟩
    · rename_i n h4
      split at he
      · rename_i es clk hn'
        exact ⟨.p k 0, h.put k (some (.it n clk [] clk)), k.succ, fun s D K => by simp only [evEf, h4, hn'], .inr rfl, fun φ ev w hr hh hn => (ef_range hr hh hn.at hu h1 h4 (.inr ⟨n, es, clk, rfl, hn', rfl⟩)).congr rfl⟩
      · cases he
    · cases he
  · rename_i cm hu h1
    cases hc
    simp only [evEf] at he
    split at he
    · rename_i l h4
      exact ⟨.p k 0, h.put k (some (.si l 0)), k.succ, fun s D K => by simp only [evEf, h4], .inr rfl, fun φ ev w hr hh hn => (ef_rangeStr hr hh hn.at hu h1 h4).congr rfl⟩
    · cases he
  · cases hc

theorem ok_next {dst : Option Tmp} {ty : TypeId} {ps : String} {aft : Array Edge} {g : Option (Nat × Bool)} {om : Operand} {st : Bool} {p : EfOp} (hc : compOper P dyn oc ⟨dst, .next om st, ty, ps, aft, g⟩ = some (.ef p))
    (he : evEf s ρ p D h k K = .go x F' D' h' k') : EfOk P dyn oc ρ ⟨dst, .next om st, ty, ps, aft, g⟩ p h k := by
  simp only [compOper] at hc
  obtain ⟨cm, h1, hp⟩ := Option.map_eq_some_iff.1 hc
  cases st with
  | false =>
    have hp : COp.ef (.nx cm) = .ef p := hp
    cases hp
    simp only [evEf] at he
    split at he
    · rename_i n h4
      split at he
      · rename_i hn
        exact ⟨.tu [.b false], h, k, fun s D K => by simp only [evEf, h4, hn], .inl rfl, fun φ ev w hr hh _ => (ef_nextMap hr hh h1 h4 (.inl ⟨hn, rfl, rfl⟩)).congr rfl⟩
      · rename_i m since seen last hn
        split at he
        · rename_i es clk hm
          split at he
          · rename_i hnx
            exact ⟨.tu [.b false], h, k, fun s D K => by simp only [evEf, h4, hn, hm, hnx], .inl rfl, fun φ ev w hr hh _ => (ef_nextMap hr hh h1 h4 (.inr ⟨m, since, seen, last, es, clk, _, hn, hm, hnx, .inl ⟨rfl, rfl, rfl⟩⟩)).congr rfl⟩
          · rename_i e hnx
            exact ⟨.tu [.b true, e.1, e.2.1], h.put n (some (.it m since (e.2.2 :: seen) clk)), k, fun s D K => by simp only [evEf, h4, hn, hm, hnx], .inl rfl,
              fun φ ev w hr hh _ => (ef_nextMap hr hh h1 h4 (.inr ⟨m, since, seen, last, es, clk, _, hn, hm, hnx, .inr ⟨e, rfl, rfl, rfl⟩⟩)).congr rfl⟩
          · cases he
        · cases he
      · cases he
    · cases he
  | true =>
    have hp : COp.ef (.ny cm) = .ef p := hp
    cases hp
    simp only [evEf] at he
    split at he
    · rename_i n h4
      split at he
      · rename_i l pos hn
        split at he
        · rename_i hd
          exact ⟨.tu [.b false], h, k, fun s D K => by simp only [evEf, h4, hn, hd], .inl rfl, fun φ ev w hr hh _ => (ef_nextStr hr hh h1 h4 hn (.inl ⟨by rw [← drp_eq]; exact hd, rfl, rfl⟩)).congr rfl⟩
        · rename_i c r hd
          rcases cond_eq_true he with ⟨hc, he⟩ | ⟨_, he⟩
          · have hc' := hc
            rw [blt_iff] at hc
            exact ⟨.tu [.b true, .i .i64 (.ofNat pos), .i .i32 (.ofNat c)], h.put n (some (.si l (pos + 1))), k, fun s D K => by simp only [evEf, h4, hn, hd, hc', cond_true], .inl rfl,
              fun φ ev w hr hh _ => (ef_nextStr hr hh h1 h4 hn (.inr ⟨c, r, by rw [← drp_eq]; exact hd, by simpa using hc, rfl, rfl⟩)).congr rfl⟩
          · cases he
      · cases he
    · cases he

theorem mapO_two {oc : Operand → Option CV} {l : List Operand} {a b : CV} (h : mapO oc l = some [a, b]) : ∃ x y, l = [x, y] ∧ oc x = some a ∧ oc y = some b := by
  cases l with
  | nil => cases h
  | cons x l =>
    simp only [mapO] at h
    cases h1 : oc x with
    | none => rw [h1] at h; cases h
    | some c =>
      rw [h1] at h
      cases l with
      | nil => simp [mapO] at h
      | cons y l =>
        simp only [mapO] at h
        cases h2 : oc y with
        | none => rw [h2] at h; cases h
        | some d =>
          rw [h2] at h
          cases l with
          | nil => simp [mapO] at h; obtain ⟨rfl, rfl⟩ := h; exact ⟨x, y, rfl, h1, h2⟩
          | cons z l =>
            simp only [mapO] at h
            cases h3 : oc z with
            | none => rw [h3] at h; cases h
            | some e =>
              rw [h3] at h
              cases h4 : mapO oc l with
              | none => rw [h4] at h; cases h
              | some r => rw [h4] at h; cases h
theorem mapO_one {oc : Operand → Option CV} {l : List Operand} {a : CV} (h : mapO oc l = some [a]) : ∃ x, l = [x] ∧ oc x = some a := by
  cases l with
  | nil => cases h
  | cons x l =>
    simp only [mapO] at h
    cases h1 : oc x with
    | none => rw [h1] at h; cases h
    | some c =>
      rw [h1] at h
      cases l with
      | nil => simp [mapO] at h; obtain rfl := h; exact ⟨x, rfl, h1⟩
      | cons y l =>
        simp only [mapO] at h
        cases h2 : oc y with
        | none => rw [h2] at h; cases h
        | some d =>
          rw [h2] at h
          cases h4 : mapO oc l with
          | none => rw [h4] at h; cases h
          | some r => rw [h4] at h; cases h
theorem map_two {f : TypeId → Option TypeDesc} {l : List TypeId} {a b : Option TypeDesc} (h : l.map f = [a, b]) : ∃ x y, l = [x, y] ∧ f x = a ∧ f y = b := by
  cases l with
  | nil => cases h
  | cons x l =>
    cases l with
    | nil => cases h
    | cons y l =>
      cases l with
      | nil => simp at h; exact ⟨x, y, rfl, h.1, h.2⟩
      | cons _ _ => simp at h
theorem map_one {f : TypeId → Option TypeDesc} {l : List TypeId} {a : Option TypeDesc} (h : l.map f = [a]) : ∃ x, l = [x] ∧ f x = a := by
  cases l with
  | nil => cases h
  | cons x l =>
    cases l with
    | nil => simp at h; exact ⟨x, rfl, h⟩
    | cons _ _ => simp at h

theorem apnd_k {esz bytes : Nat} {h : TT AO} {k : Pos} {a b v : AV} {hp : TT AO} {k1 : Pos} (hw : apnd esz bytes h k a b = some (v, hp, k1)) : k1 = k ∨ k1 = k.succ := by
  unfold apnd at hw
  split at hw
  · cases hw
  split at hw
  · cases hw
  rcases cond_eq_true hw with ⟨_, hw⟩ | ⟨_, hw⟩
  · cases hw
  cases a with
  | sz =>
    rcases cond_eq_true hw with ⟨_, hw⟩ | ⟨_, hw⟩
    · cases hw; exact .inl rfl
    · rcases cond_eq_true hw with ⟨_, hw⟩ | ⟨_, hw⟩ <;> cases hw; exact .inr rfl
  | sl nm off l c =>
    rcases cond_eq_true hw with ⟨_, hw⟩ | ⟨_, hw⟩
    · split at hw <;> cases hw; exact .inl rfl
    · split at hw
      · rcases cond_eq_true hw with ⟨_, hw⟩ | ⟨_, hw⟩ <;> cases hw; exact .inr rfl
      · cases hw
  | su nm off l c =>
    rcases cond_eq_true hw with ⟨_, hw⟩ | ⟨_, hw⟩
    · cases hw; exact .inl rfl
    · split at hw
      · rcases cond_eq_true hw with ⟨_, hw⟩ | ⟨_, hw⟩ <;> cases hw; exact .inr rfl
      · cases hw
  | se nm =>
    rcases cond_eq_true hw with ⟨_, hw⟩ | ⟨_, hw⟩ <;> cases hw; exact .inl rfl
  | _ => cases hw

theorem ok_builtin {dst : Option Tmp} {ty : TypeId} {ps : String} {aft : Array Edge} {g : Option (Nat × Bool)} {b : Builtin} {args : Array Operand} {tys : Array TypeId} {p : EfOp}
    (hc : compCall P dyn oc ⟨.builtin b, args, tys⟩ = some (.ef p)) (he : evEf s ρ p D h k K = .go x F' D' h' k') : EfOk P dyn oc ρ ⟨dst, .call ⟨.builtin b, args, tys⟩, ty, ps, aft, g⟩ p h k := by
  simp only [compCall] at hc
  split at hc
  · cases hc
  · cases hc
  · cases hc
  · cases hc
  · rename_i e y ca cb ht hm
    split at hc
    · rename_i sz bytes z hs hby hz
      rcases cond_eq_true hc with ⟨_, hc⟩ | ⟨hcond, hc⟩
      · cases hc
      · cases hc
        simp only [Bool.or_eq_false_iff, Bool.not_eq_false', len_eq] at hcond
        obtain ⟨⟨⟨⟨hs0, hb0⟩, hsz⟩, hoz⟩, hy⟩ := hcond
        rw [beq_iff] at hs0 hb0 hsz
        obtain ⟨oa, ob, hargs, h1, h2⟩ := mapO_two hm
        obtain ⟨t, t2, htys, hu, hu2⟩ := map_two ht
        obtain rfl : args = #[oa, ob] := by obtain ⟨l⟩ := args; simp at hargs; rw [hargs]
        obtain rfl : tys = #[t, t2] := by obtain ⟨l⟩ := tys; simp at htys; rw [htys]
        simp only [evEf] at he
        split at he
        · rename_i a b' h3 h4
          split at he
          · rename_i v hp k1 hw
            have hA := fun (φ : Phi) (ev : Operand → Value) (w : World) hr hh => ef_append (dyn := dyn) (φ := φ) (ev := ev) (w := w) (ty := ty) hr hh hu hu2 hy hs hby hz (by simpa using hsz) (by simpa using hs0) (by simpa using hb0) hoz h1 h2 h3 h4 hw
            refine ⟨v, hp, k1, fun s D K => by simp only [evEf, h3, h4, hw], ?_, fun φ ev w hr hh hn => ((hA φ ev w hr hh).2 hn).congr (by simp [execOp, resolve, invoke, Go.builtin])⟩
            exact apnd_k hw
          · cases he
        · cases he
    · cases hc
  · rename_i e ot ca cb ht hm
    split at hc
    · rename_i sz hs
      cases hc
      obtain ⟨oa, ob, hargs, h1, h2⟩ := mapO_two hm
      obtain ⟨t, t2, htys, hu, hu2⟩ := map_two ht
      obtain rfl : args = #[oa, ob] := by obtain ⟨l⟩ := args; simp at hargs; rw [hargs]
      obtain rfl : tys = #[t, t2] := by obtain ⟨l⟩ := tys; simp at htys; rw [htys]
      simp only [evEf] at he
      split at he
      · rename_i a b' h3 h4
        split at he
        · rename_i x1 y1 hx hy
          split at he
          · rename_i l hf
            have hex : ∀ (ev : Operand → Value) (w : World), (execOp ev ⟨dst, .call ⟨.builtin .copy, #[oa, ob], #[t, t2]⟩, ty, ps, aft, g⟩).run P w = (do pure (Next.value (← Builtin.copy_ #[t, t2] ty #[ev oa, ev ob])) : Sem Next).run P w := fun ev w => by simp [execOp, resolve, invoke, Go.builtin]
            have A : ∀ {n : Pos} {off : Nat}, ((∃ l c, a = .sl n off l c) ∨ ∃ l c, a = .su n off l c) → ∀ {hp : TT AO}, wrt h n off l = some hp → ∀ (φ : Phi) (ev : Operand → Value) (w : World), RhoOk φ oc ρ ev → HR P dyn φ (fun p => h.get p) w → New φ k k →
                RunTo P dyn φ h w k (.i .i64 (.ofNat (min y1 x1))) hp k (execOp ev ⟨dst, .call ⟨.builtin .copy, #[oa, ob], #[t, t2]⟩, ty, ps, aft, g⟩) :=
              fun {n off} hav {hp} hw φ ev w hr hh _ => (ef_copy hr hh hu hs h1 h2 h3 h4 hx hy hf (.inl ⟨⟨n, off, hav, hw⟩, rfl⟩)).congr (hex ev w)
            split at he
            · rename_i n off l1 c1
              split at he
              · rename_i hp hw
                exact ⟨_, hp, k, fun s D K => by simp only [evEf, h3, h4, hx, hy, hf, hw], .inl rfl, A (.inl ⟨_, _, rfl⟩) hw⟩
              · cases he
            · rename_i n off l1 c1
              split at he
              · rename_i hp hw
                exact ⟨_, hp, k, fun s D K => by simp only [evEf, h3, h4, hx, hy, hf, hw], .inl rfl, A (.inr ⟨_, _, rfl⟩) hw⟩
              · cases he
            · exact ⟨.i .i64 0, h, k, fun s D K => by simp only [evEf, h3, h4, hx, hy, hf], .inl rfl, fun φ ev w hr hh _ => (ef_copy hr hh hu hs h1 h2 h3 h4 hx hy hf (.inr ⟨.inl rfl, rfl, rfl⟩)).congr (hex ev w)⟩
            · rename_i n
              exact ⟨.i .i64 0, h, k, fun s D K => by simp only [evEf, h3, h4, hx, hy, hf], .inl rfl, fun φ ev w hr hh _ => (ef_copy hr hh hu hs h1 h2 h3 h4 hx hy hf (.inr ⟨.inr ⟨n, rfl⟩, rfl, rfl⟩)).congr (hex ev w)⟩
            · cases he
          · cases he
        · cases he
      · cases he
    · cases hc
  · rename_i kt et ot cm ck ht hm
    split at hc
    · rename_i e hE
      cases hc
      obtain ⟨om, ok, hargs, h1, h2⟩ := mapO_two hm
      obtain ⟨t, t2, htys, hu, hu2⟩ := map_two ht
      obtain rfl : args = #[om, ok] := by obtain ⟨l⟩ := args; simp at hargs; rw [hargs]
      obtain rfl : tys = #[t, t2] := by obtain ⟨l⟩ := tys; simp at htys; rw [htys]
      have hex : ∀ (ev : Operand → Value) (w : World), (execOp ev ⟨dst, .call ⟨.builtin .delete, #[om, ok], #[t, t2]⟩, ty, ps, aft, g⟩).run P w = (do pure (Next.value (← Builtin.delete_ #[t, t2] ty #[ev om, ev ok])) : Sem Next).run P w := fun ev w => by simp [execOp, resolve, invoke, Go.builtin]
      simp only [evEf] at he
      split at he
      · rename_i y h3 h4
        rcases cond_eq_true he with ⟨hs, he⟩ | ⟨_, he⟩
        · exact ⟨undf, h, k, fun s D K => by simp only [evEf, h3, h4, hs, cond_true], .inl rfl, fun φ ev w hr hh _ => (ef_delete (ts := [t2]) hr hh hu hE h1 h2 h3 h4 (.inl ⟨rfl, hs, rfl⟩)).congr (hex ev w)⟩
        · cases he
      · rename_i n y h3 h4
        split at he
        · rename_i es clk hn
          split at he
          · rename_i i r1 r2 hf
            refine ⟨undf, h.put n (some (.mp (es.take i ++ es.drop (i + 1)) clk)), k, fun s D K => by simp only [evEf, h3, h4, hn, hf, app_eq, tak_eq, drp_eq], .inl rfl,
              fun φ ev w hr hh _ => (ef_delete (ts := [t2]) hr hh hu hE h1 h2 h3 h4 (.inr ⟨n, es, clk, rfl, hn, .inl ⟨i, _, hf, rfl⟩⟩)).congr (hex ev w)⟩
          · rename_i hf
            exact ⟨undf, h, k, fun s D K => by simp only [evEf, h3, h4, hn, hf], .inl rfl, fun φ ev w hr hh _ => (ef_delete (ts := [t2]) hr hh hu hE h1 h2 h3 h4 (.inr ⟨n, es, clk, rfl, hn, .inr ⟨hf, rfl⟩⟩)).congr (hex ev w)⟩
          · cases he
        · cases he
      · cases he
    · cases hc
  · rename_i kt et cm ht hm
    cases hc
    obtain ⟨om, hargs, h1⟩ := mapO_one hm
    obtain ⟨t, htys, hu⟩ := map_one ht
    obtain rfl : args = #[om] := by obtain ⟨l⟩ := args; simp at hargs; rw [hargs]
    obtain rfl : tys = #[t] := by obtain ⟨l⟩ := tys; simp at htys; rw [htys]
    have hex : ∀ (ev : Operand → Value) (w : World), (execOp ev ⟨dst, .call ⟨.builtin .clear, #[om], #[t]⟩, ty, ps, aft, g⟩).run P w = (do pure (Next.value (← Builtin.clear_ #[t] ty #[ev om])) : Sem Next).run P w := fun ev w => by simp [execOp, resolve, invoke, Go.builtin]
    simp only [evEf] at he
    split at he
    · rename_i h3
      exact ⟨undf, h, k, fun s D K => by simp only [evEf, h3], .inl rfl, fun φ ev w hr hh _ => (ef_clearMap hr hh hu h1 h3 (.inl ⟨rfl, rfl⟩)).congr (hex ev w)⟩
    · rename_i n h3
      split at he
      · rename_i es clk hn
        exact ⟨undf, h.put n (some (.mp [] clk)), k, fun s D K => by simp only [evEf, h3, hn], .inl rfl, fun φ ev w hr hh _ => (ef_clearMap hr hh hu h1 h3 (.inr ⟨n, es, clk, rfl, hn, rfl⟩)).congr (hex ev w)⟩
      · cases he
    · cases he
  · rename_i e cm ht hm
    split at hc
    · rename_i sz z hs hz
      rcases cond_eq_true hc with ⟨ho, hc⟩ | ⟨_, hc⟩
      · cases hc
        obtain ⟨om, hargs, h1⟩ := mapO_one hm
        obtain ⟨t, htys, hu⟩ := map_one ht
        obtain rfl : args = #[om] := by obtain ⟨l⟩ := args; simp at hargs; rw [hargs]
        obtain rfl : tys = #[t] := by obtain ⟨l⟩ := tys; simp at htys; rw [htys]
        have hex : ∀ (ev : Operand → Value) (w : World), (execOp ev ⟨dst, .call ⟨.builtin .clear, #[om], #[t]⟩, ty, ps, aft, g⟩).run P w = (do pure (Next.value (← Builtin.clear_ #[t] ty #[ev om])) : Sem Next).run P w := fun ev w => by simp [execOp, resolve, invoke, Go.builtin]
        simp only [evEf] at he
        split at he
        · rename_i h3
          exact ⟨undf, h, k, fun s D K => by simp only [evEf, h3], .inl rfl, fun φ ev w hr hh _ => (ef_clearSlice hr hh hu hz ho h1 h3 (.inl ⟨rfl, rfl⟩)).congr (hex ev w)⟩
        · rename_i n off c h3
          exact ⟨undf, h, k, fun s D K => by simp only [evEf, h3], .inl rfl, fun φ ev w hr hh _ => (ef_clearSlice hr hh hu hz ho h1 h3 (.inr (.inl ⟨n, off, c, rfl, rfl⟩))).congr (hex ev w)⟩
        · rename_i n off l c hne h3
          split at he
          · rename_i hp hw
            refine ⟨undf, hp, k, fun s D K => ?_, .inl rfl, fun φ ev w hr hh _ => (ef_clearSlice hr hh hu hz ho h1 h3 (.inr (.inr ⟨n, off, l, .inl ⟨c, rfl⟩, hw⟩))).congr (hex ev w)⟩
            cases l with
            | zero => exact (hne rfl).elim
            | succ l => simp only [evEf, h3, hw]
          · cases he
        · rename_i n off l c h3
          split at he
          · rename_i hp hw
            exact ⟨undf, hp, k, fun s D K => by simp only [evEf, h3, hw], .inl rfl, fun φ ev w hr hh _ => (ef_clearSlice hr hh hu hz ho h1 h3 (.inr (.inr ⟨n, off, l, .inr ⟨c, rfl⟩, hw⟩))).congr (hex ev w)⟩
          · cases he
        · cases he
      · cases hc
    · cases hc
  · cases hc
  · cases hc
  · cases hc
end
end Go.Ev
namespace Go.Ev
open Go

theorem ef_ok {P : Program} {dyn : List TypeId} {oc : Operand → Option CV} {ρ : Rho} {h : TT AO} {k : Pos} {s : Sf} {D : List AD} {K : KT} {x : X} {F' : TT AV} {D' : List AD} {h' : TT AO} {k' : Pos} {o : Oper} {p : EfOp}
    (hc : compOper P dyn oc o = some (.ef p)) (hpl : plainE p = true) (he : evEf s ρ p D h k K = .go x F' D' h' k') : EfOk P dyn oc ρ o p h k := by
  obtain ⟨dst, op, ty, ps, aft, g⟩ := o
  have mp : ∀ {α : Type} {o : Option α} {f : α → COp}, o.map f = some (.ef p) → ∃ a, o = some a ∧ f a = .ef p := by
    intro α o f h; simpa [Option.map_eq_some_iff] using h
  cases op with
  | store t a v => exact ok_store hc he
  | mapUpdate t m a v => exact ok_update (fun _ => rfl) hc he
  | insert t m a v => exact ok_update (fun _ => rfl) hc he
  | range t m => exact ok_range hc he
  | next m st => exact ok_next hc he
  | call c =>
    obtain ⟨callee, args, tys⟩ := c
    cases callee with
    | builtin b => exact ok_builtin hc he
    | value f =>
      simp only [compOper, compCall] at hc
      split at hc <;> cases hc
      cases hpl
    | invoke r n =>
      simp only [compOper, compCall] at hc
      split at hc <;> cases hc
      cases hpl
  | defer c =>
    simp only [compOper] at hc
    split at hc
    · split at hc <;> cases hc
      cases hpl
    · cases hc
  | makeMap t n => cases n <;> cases hc
  | makeFunc c a b =>
    cases c with
    | func f =>
      simp only [compOper] at hc
      split at hc
      · rcases cond_eq_true hc with ⟨_, hc⟩ | ⟨_, hc⟩ <;> cases hc
      · cases hc
    | _ => cases hc
  | binOp op t x y yt =>
    exfalso
    simp only [compOper] at hc
    split at hc
    · split at hc
      all_goals first
        | (cases hc; done)
        | (repeat' first
            | (cases hc; done)
            | (obtain ⟨_, _, h⟩ := mp hc; cases h; done)
            | (split at hc)
            | (rcases cond_eq_true hc with ⟨_, hc⟩ | ⟨_, hc⟩))
    · cases hc
  | _ =>
    exfalso
    simp only [compOper] at hc
    repeat' first
      | (cases hc; done)
      | (obtain ⟨_, _, h⟩ := mp hc; cases h; done)
      | (split at hc)
      | (rcases cond_eq_true hc with ⟨_, hc⟩ | ⟨_, hc⟩)

def plainO : COp → Bool
  | .ef p => plainE p
  | _ => true
/-- an operation that calls nothing: what the evaluator does, whatever comes behind, and that the model does it too. -/
def OpOk (P : Program) (dyn : List TypeId) (oc : Operand → Option CV) (ρ : Rho) (o : Oper) (c : COp) (h : TT AO) (k : Pos) : Prop :=
  ∃ v h1 k1, (∀ (s : Sf) (D : List AD) (K : KT), evOp s ρ c D h k K = K v D h1 k1) ∧ (k1 = k ∨ k1 = k.succ) ∧
    ∀ (φ : Phi) (ev : Operand → Value) (w : World), RhoOk φ oc ρ ev → HR P dyn φ (fun p => h.get p) w → New φ k k1 → RunTo P dyn φ h w k v h1 k1 (execOp ev o)

theorem op_ok {P : Program} {dyn : List TypeId} {oc : Operand → Option CV} {ρ : Rho} {h : TT AO} {k : Pos} {s : Sf} {D : List AD} {K : KT} {x : X} {F' : TT AV} {D' : List AD} {h' : TT AO} {k' : Pos} {o : Oper} {c : COp}
    (hc : compOper P dyn oc o = some c) (hpl : plainO c = true) (he : evOp s ρ c D h k K = .go x F' D' h' k') : OpOk P dyn oc ρ o c h k := by
  cases c with
  | pu p =>
    simp only [evOp] at he
    split at he
    · rename_i v hv
      refine ⟨v, h, k, fun s D K => by simp only [evOp, hv], .inl rfl, fun φ ev w hr hh _ => ?_⟩
      obtain ⟨v', e1, e2⟩ := pu_run hr hc hv w
      exact ⟨φ, w, .value v', v', e1, rfl, e2, Aft.refl hh⟩
    · cases he
  | rd p =>
    simp only [evOp] at he
    split at he
    · rename_i v hv
      refine ⟨v, h, k, fun s D K => by simp only [evOp, hv], .inl rfl, fun φ ev w hr hh _ => ?_⟩
      obtain ⟨v', e1, e2⟩ := rd_run hr hh hc hv
      exact ⟨φ, w, .value v', v', e1, rfl, e2, Aft.refl hh⟩
    · cases he
  | al p =>
    simp only [evOp] at he
    split at he
    · rename_i b v hv
      refine ⟨v, h.put k (some b), k.succ, fun s D K => by simp only [evOp, hv], .inr rfl, fun φ ev w hr hh hn => ?_⟩
      obtain ⟨s', e1, v', w', L, e2, e3, e4, e5⟩ := al_run hr hh hn.at hc hv
      exact ⟨upL φ k L, w', .value v', v', (e1 w).trans (by simp [e2]), rfl, e5, upL_grown _ _ _, e3, e4⟩
    · cases he
  | ef p =>
    obtain ⟨v, h1, k1, a, b, c⟩ := ef_ok hc hpl (s := s) (D := D) (K := K) he
    exact ⟨v, h1, k1, a, b, c⟩
end Go.Ev
namespace Go.Ev
open Go

def Fc (φ : Phi) (rd : Option Pos) (F : Fence) : Prop :=
  match rd with
  | none => F = Fence.wide
  | some l => ∃ L, φ l = some L ∧ F = Fence.wide.inRound L.b
inductive DRs (φ : Phi) : List AD → List Deferred → Prop
  | nil : DRs φ [] []
  | mk (n : Pos) (L : Loc) (h : φ n = some L) {D : List AD} {ds : List Deferred} (t : DRs φ D ds) : DRs φ (.mk n :: D) (⟨.collected L.b, #[]⟩ :: ds)
  | fn (f : Pos) (l : List AV) (args cap : Array Value) (h : VRs φ l (args ++ cap).toList) {D : List AD} {ds : List Deferred} (t : DRs φ D ds) : DRs φ (.fn f l :: D) (⟨.fn (.func (f.num - 1)) cap, args⟩ :: ds)
def DR (φ : Phi) (rd : Option Pos) (D : List AD) (ds : List Deferred) : Prop :=
  match rd with
  | none => DRs φ D ds
  | some _ => ∃ D', D = .rnd :: D'

theorem Fc.mono {φ φ' : Phi} (hle : φ.le φ') {rd : Option Pos} {F : Fence} (h : Fc φ rd F) : Fc φ' rd F := by
  cases rd with
  | none => exact h
  | some l => obtain ⟨L, h1, h2⟩ := h; exact ⟨L, hle _ _ h1, h2⟩
theorem DRs.mono {φ φ' : Phi} (hle : φ.le φ') {D : List AD} {ds : List Deferred} (h : DRs φ D ds) : DRs φ' D ds := by
  induction h with
  | nil => exact .nil
  | mk n L h _ ih => exact .mk n L (hle _ _ h) ih
  | fn f l args cap h _ ih => exact .fn f l args cap (h.mono hle) ih
theorem DR.mono {φ φ' : Phi} (hle : φ.le φ') {rd : Option Pos} {D : List AD} {ds : List Deferred} (h : DR φ rd D ds) : DR φ' rd D ds := by
  cases rd with
  | none => exact DRs.mono hle h
  | some l => exact h
theorem Fc.fn {φ : Phi} {rd : Option Pos} {F : Fence} (h : Fc φ rd F) (f : FuncId) : F.fn f := by
  cases rd with
  | none => cases h; trivial
  | some l => obtain ⟨L, _, rfl⟩ := h; trivial
theorem Fc.depth {φ : Phi} {rd : Option Pos} {F : Fence} (h : Fc φ rd F) : F.depth = none := by
  cases rd with
  | none => cases h; rfl
  | some l => obtain ⟨L, _, rfl⟩ := h; rfl
theorem Fc.deep {φ : Phi} {rd : Option Pos} {F : Fence} (h : Fc φ rd F) (n : Nat) : F.depth.isSome = true → 1 ≤ n := by
  rw [h.depth]; intro e; cases e
theorem Fc.calls {φ : Phi} {rd : Option Pos} {F : Fence} (h : Fc φ rd F) {n : Nat} {P : Program} {f : FuncId} {args : Array Value} {w : World} {R : Ending → World → Prop} (hc : CallsIn Fence.wide n P f args w R) : CallsIn F n P f args w R := by
  cases rd with
  | none => cases h; exact hc
  | some l => obtain ⟨L, _, rfl⟩ := h; exact hc
theorem Fc.rounds {φ : Phi} {rd : Option Pos} {F : Fence} (h : Fc φ rd F) {n : Nat} {P : Program} {l : Nat} {f : FuncId} {tmps : Array Value} {assign body : Code} {w : World} {R : Ending → World → Prop} (hc : RoundIn Fence.wide n P l f tmps assign body w R) : RoundIn F n P l f tmps assign body w R := by
  cases rd with
  | none => cases h; exact hc
  | some l => obtain ⟨L, _, rfl⟩ := h; exact hc

/-- a call's return. -/
def RetTo (P : Program) (dyn : List TypeId) (φ : Phi) (h : TT AO) (w : World) (k : Pos) (v : AV) (h1 : TT AO) (k1 : Pos) : Ending → World → Prop :=
  fun e w1 => ∃ v' φ1, e = .returned v' ∧ VR φ1 v v' ∧ Aft P dyn φ h w k φ1 h1 w1 k1
def CPost (P : Program) (dyn : List TypeId) (φ : Phi) (rd : Option Pos) (gm nt : Nat) (h : TT AO) (w : World) (k : Pos) (x : X) (F1 : TT AV) (D1 : List AD) (h1 : TT AO) (k1 : Pos) : Exit → Act → World → Prop :=
  fun e a1 w1 => e = exitOf x ∧ ∃ φ1, TR φ1 gm nt (fun p => F1.get p) a1.tmps ∧ DR φ1 rd D1 a1.defers ∧ Aft P dyn φ h w k φ1 h1 w1 k1
def CaOk (P : Program) (dyn : List TypeId) (ca : Pos → List AV → TT AO → Pos → RV) : Prop :=
  ∀ f l h k v h1 k1, ca f l h k = .go v h1 k1 → k.num ≤ k1.num ∧ (∀ args w, (callFunc (f.num - 1) args).run P w = .ok (.enter (f.num - 1) args) w) ∧
    ∀ φ w (args : Array Value), VRs φ l args.toList → HR P dyn φ (fun p => h.get p) w → New φ k k1 → CallsIn Fence.wide 0 P (f.num - 1) args w (RetTo P dyn φ h w k v h1 k1)
def ExOk (P : Program) (dyn : List TypeId) (ex : CC → Option Pos → TT AV → List AD → TT AO → Pos → R) : Prop :=
  ∀ c rd F D h k x F1 D1 h1 k1, ex c rd F D h k = .go x F1 D1 h1 k1 → k.num ≤ k1.num ∧
    ∀ code gm nt hint, compH P dyn gm nt code hint = some c → nt ≤ 65536 → ∀ φ w a Fn, TR φ gm nt (fun p => F.get p) a.tmps → DR φ rd D a.defers → Fc φ rd Fn → HR P dyn φ (fun p => h.get p) w → New φ k k1 →
      code.wpIn Fn 0 P (CPost P dyn φ rd gm nt h w k x F1 D1 h1 k1) a w
structure SfOk (P : Program) (dyn : List TypeId) (s : Sf) : Prop where
  ca : CaOk P dyn s.ca
  ex : ExOk P dyn s.ex

section
variable {P : Program} {dyn : List TypeId} {φ : Phi} {h : TT AO} {w : World} {k : Pos}

theorem Aft.le {φ1 : Phi} {h1 : TT AO} {w1 : World} {k1 : Pos} (ha : Aft P dyn φ h w k φ1 h1 w1 k1) (hn : New φ k k1) : φ.le φ1 := ha.gr.le hn
theorem Aft.trans {φ1 φ2 : Phi} {h1 h2 : TT AO} {w1 w2 : World} {k1 k2 : Pos} (l1 : k.num ≤ k1.num) (l2 : k1.num ≤ k2.num) (ha : Aft P dyn φ h w k φ1 h1 w1 k1) (hb : Aft P dyn φ1 h1 w1 k1 φ2 h2 w2 k2) : Aft P dyn φ h w k φ2 h2 w2 k2 :=
  ⟨Grown.trans l1 l2 ha.gr hb.gr, hb.hr, ha.ex.trans hb.ex⟩

theorem setAll_run : ∀ {ts : List Tmp} {l : List AV} {F F1 : TT AV} {gm nt : Nat} {tmps : Array Value} {vs : List Value}, nt ≤ 65536 → TR φ gm nt (fun p => F.get p) tmps → ts.all (fun t => kept gm t && Nat.blt t nt) = true → setAll (ts.map pos) l F = some F1 → VRs φ l vs →
    TR φ gm nt (fun p => F1.get p) ((ts.zip vs).foldl (fun tmps p => tmps.setIfInBounds p.1 p.2) tmps) ∧ ts.length = vs.length
  | [], l, F, F1, gm, nt, tmps, vs, hnt, hT, hk, hs, hv => by
    cases l with
    | nil => cases hs; cases hv; exact ⟨hT, rfl⟩
    | cons _ _ => cases hs
  | t :: ts, l, F, F1, gm, nt, tmps, vs, hnt, hT, hk, hs, hv => by
    cases l with
    | nil => cases hs
    | cons x l =>
      cases hv with
      | cons hx hv =>
        rename_i v vs
        change setAll (ts.map pos) l (F.put (pos t) (some x)) = some F1 at hs
        simp only [List.all_cons, Bool.and_eq_true] at hk
        obtain ⟨⟨hk1, hk2⟩, hk3⟩ := hk
        rw [blt_iff] at hk2
        have hk2 : t < nt := by simpa using hk2
        have hT1 : TR φ gm nt (fun p => (F.put (pos t) (some x)).get p) (tmps.setIfInBounds t v) := by
          refine ⟨by simp [hT.size], fun u y hu hy => ?_⟩
          rw [get_put] at hy
          split at hy
          · rename_i e
            have : u = t := pos_inj (Nat.lt_of_lt_of_le hu (Nat.le_trans hnt (by omega))) (Nat.lt_of_lt_of_le hk2 (Nat.le_trans hnt (by omega))) e
            subst this
            cases hy
            exact ⟨hk1, v, by simp [hT.size, hu], hx⟩
          · rename_i hne
            obtain ⟨a, v', b, c⟩ := hT.slot u y hu hy
            have : t ≠ u := fun e => hne (by rw [e])
            exact ⟨a, v', by rw [Array.getElem?_setIfInBounds_ne this]; exact b, c⟩
        obtain ⟨a, b⟩ := setAll_run hnt hT1 hk3 hs hv
        exact ⟨a, by simp [b]⟩

theorem lp_turn (hh : HR P dyn φ (fun p => h.get p) w) {n : Pos} {st : LS} {pend : Option X} {F : TT AV} {ps : List Pos} {a b : CC} {d : Pos} (hn : h.get n = some (.lp st pend F ps a b d)) {L : Loc} (hL : φ n = some L) :
    ∃ r : Loop, w.heap[L.b]? = some (.loop r) ∧ r.state = stOf st ∧ r.pending = pend.bind jumpOf ∧ (∀ x, pend = some x → ∃ c, jumpOf x = some c) ∧
      ∀ (st' : LS) (pend' : Option X), (∀ x, pend' = some x → ∃ c, jumpOf x = some c) →
        Aft P dyn φ h w k φ (h.put n (some (.lp st' pend' F ps a b d))) (w.putObj L.b (.loop { r with state := stOf st', pending := pend'.bind jumpOf })) k := by
  obtain ⟨L', ob, e1, e2, e3⟩ := hh.blk n _ hn
  rw [hL] at e1; cases e1
  cases e3 with
  | lp _ _ _ ts _ _ _ gm nt fn tmps assign body ha hb Ld hT hps h1 h2 hnt hd hp =>
    refine ⟨_, e2, rfl, rfl, hp, fun st' pend' hp' => ?_⟩
    have hlt : L.b < w.heap.size := (Array.getElem?_eq_some_iff.1 e2).1
    have ht := hh.turn (w' := w.putObj L.b (.loop ⟨stOf st', pend'.bind jumpOf, fn, tmps, ⟨ts⟩, assign, body, Ld.b⟩)) hn hL (.lp st' pend' F (ts.map pos) a b d) _
      (.lp st' pend' F ts a b d gm nt fn tmps assign body ha hb Ld hT hps h1 h2 hnt hd hp') (World.putObj_heap_same hlt) (by simp [World.putObj]) rfl rfl rfl (fun b hb => World.putObj_heap_other hb)
    exact ⟨Grown.refl _ _, ht.1, ht.2⟩

/-- what a function value leads to. -/
def Leads (P : Program) (dyn : List TypeId) (φ : Phi) (h : TT AO) (w : World) (k : Pos) (v : AV) (h1 : TT AO) (k1 : Pos) (fv : Value) (args : Array Value) : Prop :=
  (∃ f first cap, fv = .func (.func f) first cap ∧ (∀ args w, (callFunc f args).run P w = .ok (.enter f args) w) ∧ CallsIn Fence.wide 0 P f (first ++ args ++ cap) w (RetTo P dyn φ h w k v h1 k1)) ∨
  (∃ b fid tmps assign body, fv = .func (.yield b) #[] #[] ∧ (Instr.yield b args).run P w = .ok (.round b fid tmps assign body) w ∧ RoundIn Fence.wide 0 P b fid tmps assign body w (RetTo P dyn φ h w k v h1 k1))

theorem callV_ok {s : Sf} (hs : SfOk P dyn s) {fv : AV} {l : List AV} {v : AV} {h1 : TT AO} {k1 : Pos} (he : callV s fv l h k = .go v h1 k1) : k.num ≤ k1.num ∧
    ∀ φ w (fv' : Value) (args : Array Value), VR φ fv fv' → VRs φ l args.toList → HR P dyn φ (fun p => h.get p) w → New φ k k1 → Leads P dyn φ h w k v h1 k1 fv' args := by
  unfold callV at he
  split at he
  · rename_i f xs ys
    obtain ⟨hle, hcf, hc⟩ := hs.ca _ _ _ _ _ _ _ he
    refine ⟨hle, fun φ w fv' args hv hl hh hn => .inl ?_⟩
    cases hv with
    | f _ _ _ vs ws g1 g2 =>
      refine ⟨_, _, _, rfl, hcf, ?_⟩
      have : VRs φ (app xs (app l ys)) ((⟨vs⟩ : Array Value) ++ args ++ ⟨ws⟩ : Array Value).toList := by
        rw [app_eq, app_eq, Array.toList_append, Array.toList_append, List.append_assoc]
        exact g1.append (hl.append g2)
      exact hc φ w _ this hh hn
  · rename_i n
    split at he
    · rename_i p F ps a b d hn0
      split at he
      · rename_i F1 hset
        split at he
        · rename_i F2 D2 h2 k2 hea
          obtain ⟨hle1, hA⟩ := hs.ex _ _ _ _ _ _ _ _ _ _ _ hea
          split at he
          · rename_i p0 F0 ps0 a0 b0 d0 hn2
            split at he
            · rename_i x F3 D3 h3 k3 heb
              obtain ⟨hle2, hB⟩ := hs.ex _ _ _ _ _ _ _ _ _ _ _ heb
              split at he
              · rename_i p3 F4 ps4 a4 b4 d4 hn3
                have hk : k1 = k3 := by split at he <;> cases he <;> rfl
                subst hk
                refine ⟨Nat.le_trans hle1 hle2, fun φ w fv' args hv hl hh hnew => .inr ?_⟩
                cases hv with
                | fy _ L hL =>
                  obtain ⟨L', ob, e1, e2, e3⟩ := hh.blk n _ hn0
                  rw [hL] at e1; cases e1
                  cases e3 with
                  | lp _ _ _ ts _ _ _ gm nt fn tmps assign body ha hb Ld hT hps hca hcb hnt hd hp =>
                    obtain ⟨hT1, hlen⟩ := setAll_run hnt hT hps hset hl
                    have hy := run_yield (P := P) (args := args) e2 (by simp; rw [hlen]; simp)
                    refine ⟨_, _, _, _, _, rfl, hy, ?_⟩
                    have hT1' : TR φ gm nt (fun p => F1.get p) ((((⟨ts⟩ : Array Tmp).zip args).foldl (fun tmps p => tmps.setIfInBounds p.1 p.2) tmps)) := by
                      have : ((⟨ts⟩ : Array Tmp).zip args).foldl (fun tmps p => tmps.setIfInBounds p.1 p.2) tmps = (ts.zip args.toList).foldl (fun tmps p => tmps.setIfInBounds p.1 p.2) tmps := by
                        rw [← Array.foldl_toList]
                        simp
                      rw [this]
                      exact hT1
                    refine roundIn_of_wpIn trivial ?_
                    refine wpIn_mono (hA _ gm nt ha hca hnt φ w _ (Fence.wide.inRound L.b) hT1' ⟨_, rfl⟩ ⟨L, hL, rfl⟩ hh (hnew.left (by omega))) ?_
                    rintro e a1 w1 ⟨rfl, φ1, hT2, _, hA1⟩
                    have hle : φ.le φ1 := hA1.le (hnew.left (by omega))
                    have hL1 := hle _ _ hL
                    obtain ⟨r, r1, r2, rp, rh, r3⟩ := lp_turn (k := k2) hA1.hr hn2 hL1
                    refine ⟨_, run_beginRound r1 r2, ?_⟩
                    have hA2 := r3 .busy p0 rh
                    have er : ({ r with state := stOf .busy, pending := p0.bind jumpOf } : Loop) = { r with state := .busy } := by rw [← rp]; rfl
                    rw [er] at hA2
                    have hn1 : New φ1 k2 k1 := hnew.right hle1 hA1.gr
                    refine wpIn_mono (hB _ gm nt hb hcb hnt φ1 _ a1 (Fence.wide.inRound L.b) hT2 ⟨_, rfl⟩ ⟨L, hL1, rfl⟩ hA2.hr hn1) ?_
                    rintro e a3 w3 ⟨rfl, φ3, _, _, hA3⟩
                    have hle3 : φ1.le φ3 := hA3.le hn1
                    obtain ⟨q, q1, q2, qp, qh, q3⟩ := lp_turn (k := k1) hA3.hr hn3 (hle3 _ _ hL1)
                    have hAll : Aft P dyn φ h w k φ3 h3 w3 k1 := Aft.trans hle1 hle2 hA1 (Aft.trans (Nat.le_refl _) hle2 hA2 hA3)
                    have fin : ∀ (st' : LS) (pend' : Option X) (jump : Option Code), (∀ x, pend' = some x → ∃ c, jumpOf x = some c) → pend'.bind jumpOf = jump → (stOf st' = if jump.isNone then LoopState.ready else .done) → v = .b jump.isNone → h1 = h3.put n (some (.lp st' pend' F4 ps4 a4 b4 d4)) →
                        ∃ v' w', (Instr.endRound L.b jump).run P w3 = .ok v' w' ∧ RetTo P dyn φ h w k v h1 k1 (.returned v') w' := by
                      rintro st' pend' jump hj rfl hst rfl rfl
                      have hA4 := q3 st' pend' hj
                      rw [hst] at hA4
                      exact ⟨_, _, run_endRound _ q1, _, φ3, rfl, .b _, Aft.trans (Nat.le_trans hle1 hle2) (Nat.le_refl _) hAll hA4⟩
                    cases x with
                    | nrm =>
                      cases he
                      exact fin .ready none none (by intro x e; cases e) rfl rfl rfl rfl
                    | ret =>
                      cases he
                      exact fin .done (some .ret) (some .ret) (by intro x e; cases e; exact ⟨_, rfl⟩) rfl rfl rfl rfl
                    | ext id =>
                      cases he
                      exact fin .done (some (.ext id)) (some (.exit id)) (by intro x e; cases e; exact ⟨_, rfl⟩) rfl rfl rfl rfl
              · cases he
            · cases he
          · cases he
        · cases he
        · cases he
      · cases he
    · cases he
  · cases he
end
end Go.Ev
namespace Go.Ev
open Go

section
variable {P : Program} {dyn : List TypeId} {h : TT AO} {k : Pos}

theorem each_find {β α : Type} (z : β) (p : α → Bool) (g : α → β) : ∀ (l : List α), each z (fun e r => cond (p e) (g e) r) l = match l.find? p with | some e => g e | none => z
  | [] => rfl
  | e :: l => by
    change cond (p e) (g e) (each z (fun e r => cond (p e) (g e) r) l) = _
    rw [each_find z p g l, List.find?_cons]
    cases p e <;> rfl

theorem mapO_mem {α β : Type} {f : α → Option β} : ∀ {l : List α} {r : List β}, mapO f l = some r → ∀ y ∈ r, ∃ x ∈ l, f x = some y
  | [], r, h, y, hy => by cases h; cases hy
  | x :: l, r, h, y, hy => by
    simp only [mapO] at h
    cases h1 : f x with
    | none => rw [h1] at h; cases h
    | some c =>
      rw [h1] at h
      cases h2 : mapO f l with
      | none => rw [h2] at h; cases h
      | some r' =>
        rw [h2] at h
        cases h
        rcases List.mem_cons.1 hy with rfl | hy
        · exact ⟨x, by simp, h1⟩
        · obtain ⟨x', a, b⟩ := mapO_mem h2 y hy
          exact ⟨x', by simp [a], b⟩

/-- a method's function, by the dynamic type: how its receiver comes. -/
def RecvOk (P : Program) (name : String) (ty : TypeId) (f : FuncId) (ld : Option (Nat × Bool)) : Prop :=
  match ld with
  | none => ∀ (v : Value) (args : Array Value) (w : World) (K : Next), (callFunc f (#[v] ++ args)).run P w = .ok K w → (callMethod (.iface ty v) name args).run P w = .ok K w
  | some (sz, agg) => ∃ e, szOf P e = some sz ∧ agOf P e = some agg ∧ ∀ (args : Array Value) (w : World) (ad : Addr) (x : Value) (K : Next), (loadVar e ad).run P w = .ok x w → (callFunc f (#[x] ++ args)).run P w = .ok K w → (callMethod (.iface ty (.pointer (some ad))) name args).run P w = .ok K w

theorem entry_ok {name : String} {t : TypeId} {l : List (Nat × Pos × Option (Nat × Bool))} (he : entryOf P name t = some l) : ∀ e ∈ l, e.1 = t ∧ RecvOk P name t (e.2.1.num - 1) e.2.2 := by
  intro e hm
  unfold entryOf at he
  split at he
  · cases he
  · rename_i i hi
    split at he
    · cases he; cases hm
    · rename_i m hf
      rcases cond_eq_true he with ⟨hp, he⟩ | ⟨_, he⟩
      · split at he
        · rename_i f pr hfn
          rcases cond_eq_true he with ⟨hlt, he⟩ | ⟨_, he⟩
          · rw [blt_iff] at hlt
            have hlt : f < 16777216 := by simpa using hlt
            have hfind : i.methods.find? (·.name == name) = some m := by rw [← Array.find?_toList]; exact hf
            have hpath : m.path = #[] := by simpa using hp
            have hfuel : P.types.size + Made.depth = (P.types.size + 99) + 1 := rfl
            have hrun : ∀ (v : Value) (w : World), (method (P.types.size + Made.depth) t v name).run P w = (do pure (f, ← receiverAt t (.val v) pr (some ((name.splitOn ".").getLastD name))) : Sem (FuncId × Value)).run P w := by
              intro v w
              rw [hfuel, method]
              simp only [Sem.run_bind, run_typeInfo w hi, Result.andThen_ok, hfind, hpath]
              simp [follow, hfn]
            have hcall : ∀ (v r : Value) (args : Array Value) (w : World) (K : Next), (receiverAt t (.val v) pr (some ((name.splitOn ".").getLastD name))).run P w = .ok r w → (callFunc f (#[r] ++ args)).run P w = .ok K w → (callMethod (.iface t v) name args).run P w = .ok K w := by
              intro v r args w K h1 h2
              unfold callMethod
              simp only [Sem.run_bind]
              rw [show (program).run P w = .ok P w from rfl]
              simp only [Result.andThen_ok]
              rw [hrun]
              simp only [Sem.run_bind, h1, Result.andThen_ok, Sem.run_pure]
              exact h2
            have hnum : (pos f).num - 1 = f := by rw [pos_num hlt]; omega
            have direct : (∀ v : Value, ∀ w, (receiverAt t (.val v) pr (some ((name.splitOn ".").getLastD name))).run P w = .ok v w) → RecvOk P name t ((pos f).num - 1) none := by
              intro h1 v args w K hK
              rw [hnum] at hK
              exact hcall v v args w K (h1 v w) hK
            cases hu : P.underlying t with
            | none => rw [hu] at he; cases he
            | some d =>
              rw [hu] at he
              by_cases hpt : ∃ e2, d = .pointer e2
              · obtain ⟨e2, rfl⟩ := hpt
                cases pr with
                | true =>
                  cases he
                  obtain rfl := List.mem_singleton.1 hm
                  exact ⟨rfl, direct fun v w => by simp [receiverAt, run_underlying hu, Place.get]⟩
                | false =>
                  simp only at he
                  split at he
                  · rename_i sz ag hs ha
                    cases he
                    obtain rfl := List.mem_singleton.1 hm
                    refine ⟨rfl, ?_⟩
                    simp only
                    rw [hnum]
                    refine ⟨e2, hs, ha, fun args w ad x K hl hK => ?_⟩
                    refine hcall _ x args w K ?_ hK
                    have hchk : ∀ (a b : Value) (w : World), (∃ s, a = .string s) → (∃ s, b = .string s) → (Builtin.ssaWrapNilChk_ #[t] t #[.pointer (some ad), a, b]).run P w = .ok (.pointer (some ad)) w := by
                      rintro a b w ⟨s1, rfl⟩ ⟨s2, rfl⟩
                      rfl
                    simp only [receiverAt, Sem.run_bind, run_underlying hu, Result.andThen_ok, Place.get, Sem.run_pure]
                    rw [hchk (strVal "") (strVal ((name.splitOn ".").getLastD name)) w ⟨_, rfl⟩ ⟨_, rfl⟩]
                    simp [asAddr, hl]
                  · cases he
              · cases pr with
                | true => cases d <;> first | (exact absurd ⟨_, rfl⟩ hpt) | cases he
                | false =>
                  have he : some [(t, pos f, (none : Option (Nat × Bool)))] = some l := by
                    cases d <;> first | (exact absurd ⟨_, rfl⟩ hpt) | exact he
                  cases he
                  obtain rfl := List.mem_singleton.1 hm
                  refine ⟨rfl, direct fun v w => ?_⟩
                  simp only [receiverAt, Sem.run_bind, run_underlying hu, Result.andThen_ok]
                  cases d <;> first | (exact absurd ⟨_, rfl⟩ hpt) | rfl
          · cases he
        · cases he
      · cases he

/-- what one operation does, calls and all. -/
def StepOk (P : Program) (dyn : List TypeId) (oc : Operand → Option CV) (ρ : Rho) (s : Sf) (o : Oper) (c : COp) (D : List AD) (h : TT AO) (k : Pos) : Prop :=
  ∃ v D1 h1 k1, (∀ K : KT, evOp s ρ c D h k K = K v D1 h1 k1) ∧ k.num ≤ k1.num ∧
    ∀ (φ : Phi) (rd : Option Pos) (a : Act) (w : World) (F : Fence) (next : Act → World → Prop) (Q : Exit → Act → World → Prop), RhoOk φ oc ρ a.eval → HR P dyn φ (fun p => h.get p) w → DR φ rd D a.defers → Fc φ rd F → New φ k k1 →
      (∀ φ1 v' ds w1, DR φ1 rd D1 ds → VR φ1 v v' → Aft P dyn φ h w k φ1 h1 w1 k1 → next (({ a with defers := ds } : Act).put o.dst v') w1) → o.wpIn F 0 P a w next Q

theorem not_defer {oc : Operand → Option CV} {o : Oper} {c : COp} (hc : compOper P dyn oc o = some c) (hpl : plainO c = true) : ∀ d, o.op ≠ .defer d := by
  intro d e
  obtain ⟨dst, op, ty, ps, aft, g⟩ := o
  simp only at e
  subst e
  simp only [compOper] at hc
  split at hc
  · split at hc <;> cases hc
    cases hpl
  · cases hc

theorem step_plain {oc : Operand → Option CV} {ρ : Rho} {s : Sf} {D : List AD} {K : KT} {x : X} {F' : TT AV} {D' : List AD} {h' : TT AO} {k' : Pos} {o : Oper} {c : COp}
    (hc : compOper P dyn oc o = some c) (hpl : plainO c = true) (he : evOp s ρ c D h k K = .go x F' D' h' k') : StepOk P dyn oc ρ s o c D h k := by
  obtain ⟨v, h1, k1, e1, e2, e3⟩ := op_ok hc hpl he
  refine ⟨v, D, h1, k1, fun K => e1 s D K, by rcases e2 with rfl | rfl <;> simp [Pos.num_succ], fun φ rd a w F next Q hr hh hD hF hn hnext => ?_⟩
  obtain ⟨φ1, w1, nx, v', f1, f2, f3, f4⟩ := e3 φ a.eval w hr hh hn
  refine ⟨fun f _ => hF.fn f, ?_⟩
  rw [Oper.semAt_eq _ _ _ (not_defer hc hpl), f1]
  have hle := f4.le hn
  cases nx with
  | value u => cases f2; exact hnext φ1 _ a.defers w1 (hD.mono hle) f3 f4
  | skip => cases f2; exact hnext φ1 _ a.defers w1 (hD.mono hle) f3 f4
  | _ => cases f2

/-- a call goes its way. -/
theorem step_leads {φ : Phi} {w : World} {v : AV} {h1 : TT AO} {k1 : Pos} {rd : Option Pos} {F : Fence} {o : Oper} {a : Act} {next : Act → World → Prop} {Q : Exit → Act → World → Prop} {D : List AD} (_hF : Fc φ rd F) (hD : DR φ rd D a.defers) (hn : New φ k k1)
    (hnext : ∀ φ1 v' ds w1, DR φ1 rd D ds → VR φ1 v v' → Aft P dyn φ h w k φ1 h1 w1 k1 → next (({ a with defers := ds } : Act).put o.dst v') w1) :
    ∀ e w1, RetTo P dyn φ h w k v h1 k1 e w1 → (match e, w1 with | .returned v, w'' => next (a.put o.dst v) w'' | .panicked chain, w'' => Q (.panic chain) a w'' | .outgrown, _ => LetsOut Q) := by
  rintro e w1 ⟨v', φ1, rfl, e2, e3⟩
  exact hnext φ1 v' a.defers w1 (hD.mono (e3.le hn)) e2 e3

theorem call_inv {oc : Operand → Option CV} {o : Oper} {p : EfOp} (hc : compOper P dyn oc o = some (.ef p)) (hpl : plainE p = false) :
    (∃ f args tys cf cl, o.op = .call ⟨.value f, args, tys⟩ ∧ oc f = some cf ∧ mapO oc args.toList = some cl ∧ p = .ca cf cl) ∨
    (∃ r name args tys cr cl t, o.op = .call ⟨.invoke r name, args, tys⟩ ∧ oc r = some cr ∧ mapO oc args.toList = some cl ∧ mapO (entryOf P name) dyn = some t ∧ p = .iv t.flatten cr cl) ∨
    (∃ f args tys cf cl, o.op = .defer ⟨.value f, args, tys⟩ ∧ oc f = some cf ∧ mapO oc args.toList = some cl ∧ p = .df cf cl) := by
  obtain ⟨dst, op, ty, ps, aft, g⟩ := o
  have mp : ∀ {α : Type} {o : Option α} {f : α → COp}, o.map f = some (.ef p) → ∃ a, o = some a ∧ f a = .ef p := by
    intro α o f h; simpa [Option.map_eq_some_iff] using h
  cases op with
  | call c =>
    obtain ⟨callee, args, tys⟩ := c
    cases callee with
    | value f =>
      simp only [compOper, compCall] at hc
      split at hc <;> cases hc
      exact .inl ⟨_, _, _, _, _, rfl, by assumption, by assumption, rfl⟩
    | invoke r n =>
      simp only [compOper, compCall] at hc
      split at hc <;> cases hc
      exact .inr (.inl ⟨_, _, _, _, _, _, _, rfl, by assumption, by assumption, by assumption, rfl⟩)
    | builtin b =>
      exfalso
      simp only [compOper, compCall] at hc
      split at hc
      all_goals repeat' first
        | (cases hc; done)
        | (cases hc; cases hpl; done)
        | (split at hc)
        | (rcases cond_eq_true hc with ⟨_, hc⟩ | ⟨_, hc⟩)
  | defer c =>
    obtain ⟨callee, args, tys⟩ := c
    simp only [compOper] at hc
    cases callee with
    | value f =>
      simp only at hc
      split at hc <;> cases hc
      exact .inr (.inr ⟨_, _, _, _, _, rfl, by assumption, by assumption, rfl⟩)
    | _ => cases hc
  | makeMap t n => cases n <;> cases hc
  | next m st => obtain ⟨_, _, h⟩ := mp hc; cases st <;> cases h <;> cases hpl
  | makeFunc c a b =>
    cases c with
    | func f =>
      simp only [compOper] at hc
      split at hc
      · rcases cond_eq_true hc with ⟨_, hc⟩ | ⟨_, hc⟩ <;> cases hc
      · cases hc
    | _ => cases hc
  | binOp op t x y yt =>
    exfalso
    simp only [compOper] at hc
    split at hc
    · split at hc
      all_goals first
        | (cases hc; done)
        | (repeat' first
            | (cases hc; done)
            | (obtain ⟨_, _, h⟩ := mp hc; cases h; done)
            | (split at hc)
            | (rcases cond_eq_true hc with ⟨_, hc⟩ | ⟨_, hc⟩))
    · cases hc
  | _ =>
    exfalso
    simp only [compOper] at hc
    repeat' first
      | (cases hc; done)
      | (cases hc; cases hpl; done)
      | (obtain ⟨_, _, h⟩ := mp hc; cases h; done)
      | (obtain ⟨_, _, h⟩ := mp hc; cases h; cases hpl; done)
      | (split at hc)
      | (rcases cond_eq_true hc with ⟨_, hc⟩ | ⟨_, hc⟩)

theorem step_ok {oc : Operand → Option CV} {ρ : Rho} {s : Sf} (hs : SfOk P dyn s) {D : List AD} {K : KT} {x : X} {F' : TT AV} {D' : List AD} {h' : TT AO} {k' : Pos} {o : Oper} {c : COp}
    (hc : compOper P dyn oc o = some c) (he : evOp s ρ c D h k K = .go x F' D' h' k') : StepOk P dyn oc ρ s o c D h k := by
  by_cases hpl : plainO c = true
  · exact step_plain hc hpl he
  have hpe : ∃ p, c = .ef p ∧ plainE p = false := by
    cases c with
    | ef p => exact ⟨p, rfl, by simpa [plainO] using hpl⟩
    | _ => exact absurd rfl hpl
  obtain ⟨p, rfl, hpe⟩ := hpe
  rcases call_inv hc hpe with ⟨f, args, tys, cf, cl, hop, hf, hl, rfl⟩ | ⟨r, name, args, tys, cr, cl, t, hop, hf, hl, ht, rfl⟩ | ⟨f, args, tys, cf, cl, hop, hf, hl, rfl⟩
  · obtain ⟨dst, op, ty, ps, aft, g⟩ := o
    simp only at hop
    subst hop
    simp only [evOp, evEf] at he
    split at he
    · rename_i fv l h3 h4
      cases hcv : callV s fv l h k with
      | bad n => rw [hcv] at he; cases he
      | go v h1 k1 =>
        obtain ⟨hle, hV⟩ := callV_ok hs hcv
        refine ⟨v, D, h1, k1, fun K => by simp only [evOp, evEf, h3, h4, hcv], hle, fun φ rd a w F next Q hr hh hD hF hn hnext => ?_⟩
        refine ⟨fun f _ => hF.fn f, ?_⟩
        rw [Oper.semAt_eq _ _ _ (by intro d e; cases e)]
        have hargs : VRs φ l (args.map a.eval).toList := by
          rw [Array.toList_map]
          exact hr.all hl h4
        rcases hV φ w (a.eval f) (args.map a.eval) (hr.one hf h3) hargs hh hn with ⟨fi, first, cap, e1, e2, e3⟩ | ⟨b, fid, tmps, assign, body, e1, e2, e3⟩
        · have hrun : (execOp a.eval ⟨dst, .call ⟨.value f, args, tys⟩, ty, ps, aft, g⟩).run P w = .ok (.enter fi (first ++ args.map a.eval ++ cap)) w := by
            simp [execOp, resolve, Deferred.ofValue, e1, invoke, e2]
          rw [hrun, Oper.uponIn_enter]
          exact ⟨hF.deep _, CallsIn.mono (hF.calls e3) (fun e w1 hR => step_leads hF hD hn hnext e w1 hR)⟩
        · have hrun : (execOp a.eval ⟨dst, .call ⟨.value f, args, tys⟩, ty, ps, aft, g⟩).run P w = .ok (.round b fid tmps assign body) w := by
            simp [execOp, resolve, Deferred.ofValue, e1, invoke, e2]
          rw [hrun, Oper.uponIn_round]
          exact ⟨hF.deep _, RoundIn.mono (hF.rounds e3) (fun e w1 hR => step_leads hF hD hn hnext e w1 hR)⟩
    · cases he
  · obtain ⟨dst, op, ty, ps, aft, g⟩ := o
    simp only at hop
    subst hop
    simp only [evOp, evEf] at he
    split at he
    · rename_i tyid v0 l h3 h4
      rw [each_find] at he
      cases hfd : t.flatten.find? (fun e => Nat.beq e.1 tyid) with
      | none => rw [hfd] at he; cases he
      | some e =>
        rw [hfd] at he
        simp only at he
        have hmem := List.mem_of_find?_eq_some hfd
        have hty : e.1 = tyid := by
          have := List.find?_some hfd
          rw [beq_iff] at this
          simpa using this
        obtain ⟨lst, hlst, hel⟩ := List.mem_flatten.1 hmem
        obtain ⟨td, _, htd⟩ := mapO_mem ht lst hlst
        obtain ⟨het, hrc⟩ := entry_ok htd e hel
        have htd2 : td = tyid := by rw [← het]; exact hty
        subst htd2
        have fin : ∀ (u : AV) (v : AV) (h1 : TT AO) (k1 : Pos), s.ca e.2.1 (u :: l) h k = .go v h1 k1 →
            (∀ φ (a : Act) (w : World), RhoOk φ oc ρ a.eval → HR P dyn φ (fun p => h.get p) w → ∃ v' u', a.eval r = .iface td v' ∧ VR φ u u' ∧ ∀ (as : Array Value) (K : Next), (callFunc (e.2.1.num - 1) (#[u'] ++ as)).run P w = .ok K w → (callMethod (.iface td v') name as).run P w = .ok K w) →
            (∀ K : KT, evOp s ρ (.ef (.iv t.flatten cr cl)) D h k K = K v D h1 k1) → StepOk P dyn oc ρ s ⟨dst, .call ⟨.invoke r name, args, tys⟩, ty, ps, aft, g⟩ (.ef (.iv t.flatten cr cl)) D h k := by
          intro u v h1 k1 hca hrecv hK
          obtain ⟨hle, hcf, hcc⟩ := hs.ca _ _ _ _ _ _ _ hca
          refine ⟨v, D, h1, k1, hK, hle, fun φ rd a w F next Q hr hh hD hF hn hnext => ?_⟩
          refine ⟨fun f _ => hF.fn f, ?_⟩
          rw [Oper.semAt_eq _ _ _ (by intro d e; cases e)]
          obtain ⟨v', u', e1, e2, e3⟩ := hrecv φ a w hr hh
          have hargs : VRs φ (u :: l) (#[u'] ++ args.map a.eval).toList := by
            rw [Array.toList_append, Array.toList_map]
            exact .cons e2 (hr.all hl h4)
          have hrun : (execOp a.eval ⟨dst, .call ⟨.invoke r name, args, tys⟩, ty, ps, aft, g⟩).run P w = .ok (.enter (e.2.1.num - 1) (#[u'] ++ args.map a.eval)) w := by
            have := e3 (args.map a.eval) _ (hcf _ w)
            have hx : ((#[a.eval r] ++ args.map a.eval).extract 1 (#[a.eval r] ++ args.map a.eval).size) = args.map a.eval := by
              apply Array.ext'
              simp
              rw [List.take_of_length_le (by simp)]
            simp only [execOp, resolve, Sem.run_bind, Sem.run_pure, Result.andThen_ok, invoke]
            rw [hx]
            rw [e1]
            have h0 : (#[Value.iface td v'] ++ args.map a.eval)[0]? = some (.iface td v') := by
              rw [Array.getElem?_append]; rfl
            simp only [h0]
            exact this
          rw [hrun, Oper.uponIn_enter]
          exact ⟨hF.deep _, CallsIn.mono (hF.calls (hcc φ w _ hargs hh hn)) (fun e w1 hR => step_leads hF hD hn hnext e w1 hR)⟩
        split at he
        · rename_i hld
          cases hca : s.ca e.2.1 (v0 :: l) h k with
          | bad n => rw [hca] at he; cases he
          | go v h1 k1 =>
            refine fin v0 v h1 k1 hca (fun φ a w hr hh => ?_) (fun K => by simp only [evOp, evEf, h3, h4]; rw [each_find, hfd]; simp only [hld, hca])
            obtain ⟨v', a1, a2⟩ := (hr.one hf h3).inv_ic
            refine ⟨v', v', a2, a1, fun as K hK => ?_⟩
            rw [hld] at hrc
            exact hrc v' as w K hK
        · rename_i sz ag hld
          split at he
          · rename_i x0 hx0
            cases hca : s.ca e.2.1 (x0 :: l) h k with
            | bad n => rw [hca] at he; cases he
            | go v h1 k1 =>
              refine fin x0 v h1 k1 hca (fun φ a w hr hh => ?_) (fun K => by simp only [evOp, evEf, h3, h4]; rw [each_find, hfd]; simp only [hld, hx0, hca])
              obtain ⟨v', a1, a2⟩ := (hr.one hf h3).inv_ic
              rw [hld] at hrc
              obtain ⟨et, hsz, hag, hgo⟩ := hrc
              simp only [evRd] at hx0
              cases a1 with
              | p n off L hL =>
                simp only at hx0
                obtain ⟨x', b1, b2⟩ := ld_run (P := P) hh hsz hag (.p n off L hL) hx0
                refine ⟨_, x', a2, b2, fun as K hK => hgo as w _ x' K ?_ hK⟩
                simpa [Instr.loadAt, Instr.sureAddr] using b1
              | _ => cases hx0
          · cases he
    · cases he
  · obtain ⟨dst, op, ty, ps, aft, g⟩ := o
    simp only at hop
    subst hop
    simp only [evOp, evEf] at he
    split at he
    · rename_i fi xs ys l h3 h4
      split at he
      · cases he
      · rename_i hD0
        refine ⟨undf, .fn fi (app xs (app l ys)) :: D, h, k, fun K => ?_, Nat.le_refl _, fun φ rd a w F next Q hr hh hD hF hn hnext => ?_⟩
        · simp only [evOp, evEf, h3, h4]
          try (split <;> first | rfl | (exact absurd rfl (hD0 _)) | (exact (hD0 _ rfl).elim))
        · refine ⟨fun f _ => hF.fn f, ?_⟩
          cases rd with
          | some l0 =>
            obtain ⟨D1, rfl⟩ := hD
            exact (hD0 _ rfl).elim
          | none =>
            obtain rfl : F = Fence.wide := hF
            rw [show Fence.wide.round = none from rfl, Oper.semAt_none]
            obtain ⟨vs, ws, b1, b2, b3⟩ : ∃ vs ws, VRs φ xs vs ∧ VRs φ ys ws ∧ a.eval f = .func (.func (fi.num - 1)) ⟨vs⟩ ⟨ws⟩ := by
              have := hr.one hf h3
              generalize a.eval f = vf at this
              cases this
              exact ⟨_, _, by assumption, by assumption, rfl⟩
            have hrun : (execOp a.eval ⟨dst, .defer ⟨.value f, args, tys⟩, ty, ps, aft, g⟩).run P w = .ok (.defer ⟨.fn (.func (fi.num - 1)) ⟨ws⟩, ⟨vs⟩ ++ args.map a.eval⟩) w := by
              simp [execOp, resolve, Deferred.ofValue, b3]
            rw [hrun, Oper.uponIn_defer]
            refine hnext φ _ (_ :: a.defers) w (DRs.fn fi _ _ _ ?_ hD) (undef_VR φ) (Aft.refl hh)
            rw [app_eq, app_eq, Array.toList_append, Array.toList_append, Array.toList_map, List.append_assoc]
            exact b1.append ((hr.all hl h4).append b2)
    · cases he
end
end Go.Ev
namespace Go.Ev
open Go

section
variable {P : Program} {dyn : List TypeId}

/-- one operation behind its guard. -/
def GuardOk (P : Program) (dyn : List TypeId) (oc : Operand → Option CV) (ρ : Rho) (s : Sf) (o : Oper) (all : List Oper) (r : RI) (D : List AD) (h : TT AO) (k : Pos) : Prop :=
  ∃ v D1 h1 k1, (∀ K : KT, evG s ρ r D h k K = K v D1 h1 k1) ∧ k.num ≤ k1.num ∧
    ∀ (φ : Phi) (rd : Option Pos) (a : Act) (w : World) (F : Fence) (next : Act → World → Prop) (Q : Exit → Act → World → Prop) (ops : Array Oper) (i : Nat), ops.toList = all → ops[i]? = some o → RhoOk φ oc ρ a.eval → HR P dyn φ (fun p => h.get p) w → DR φ rd D a.defers → Fc φ rd F → New φ k k1 →
      (∀ φ1 v' ds w1, DR φ1 rd D1 ds → VR φ1 v v' → Aft P dyn φ h w k φ1 h1 w1 k1 → next (({ a with defers := ds } : Act).put o.dst v') w1) → wpOpIn F 0 P ops Q i next a w

theorem yielded_ok {φ : Phi} {oc : Operand → Option CV} {ρ : Rho} {a : Act} {ops : Array Oper} {all : List Oper} {o : Oper} {c : CV} {b : Bool} (hr : RhoOk φ oc ρ a.eval) (hall : ops.toList = all) (hg : guardS oc all o = some (some (c, b))) {v : AV} (hv : ρ c = some v) :
    Region.wanted o (yielded ops a.tmps) = (match v with | .b x => x == b | _ => false) := by
  unfold guardS at hg
  split at hg
  · cases hg
  · rename_i j wnt hgd
    split at hg
    · rename_i p hp
      split at hg
      · rename_i d hd
        split at hg
        · rename_i c' hc
          cases hg
          have hx := hr.one hc hv
          have hj : ops[j]? = some p := by rw [← Array.getElem?_toList, hall]; exact hp
          simp only [Region.wanted, hgd, yielded, hj, Option.bind_some, hd]
          simp only [Act.eval, Array.getD_eq_getD_getElem?] at hx
          cases ht : a.tmps[d]? with
          | none =>
            rw [ht] at hx
            simp only [Option.getD_none, undef] at hx
            cases hx with
            | o1 _ h _ => simp [Value.oneCell'] at h
            | _ => rfl
          | some u =>
            rw [ht] at hx
            simp only [Option.getD_some] at hx
            cases hx with
            | o1 _ _ hb => cases u <;> first | rfl | exact absurd rfl (hb _)
            | _ => rfl
        · cases hg
      · cases hg
    · cases hg

theorem guard_ok {oc : Operand → Option CV} {ρ : Rho} {s : Sf} (hs : SfOk P dyn s) {D : List AD} {h : TT AO} {k : Pos} {K : KT} {x : X} {F' : TT AV} {D' : List AD} {h' : TT AO} {k' : Pos} {o : Oper} {c : COp} {all : List Oper} {g : Option (CV × Bool)} {d : Dst}
    (hc : compOper P dyn oc o = some c) (hg : guardS oc all o = some g) (he : evG s ρ ⟨g, c, d⟩ D h k K = .go x F' D' h' k') : GuardOk P dyn oc ρ s o all ⟨g, c, d⟩ D h k := by
  have yes : (∀ K, evG s ρ ⟨g, c, d⟩ D h k K = evOp s ρ c D h k K) → (∀ (φ : Phi) (a : Act) (ops : Array Oper), ops.toList = all → RhoOk φ oc ρ a.eval → Region.wanted o (yielded ops a.tmps) = true) → GuardOk P dyn oc ρ s o all ⟨g, c, d⟩ D h k := by
    intro hK hw
    rw [hK] at he
    obtain ⟨v, D1, h1, k1, e1, e2, e3⟩ := step_ok hs hc he
    refine ⟨v, D1, h1, k1, fun K => (hK K).trans (e1 K), e2, fun φ rd a w F next Q ops i hall hi hr hh hD hF hn hnext => ?_⟩
    unfold wpOpIn
    rw [hi]
    simp only [hw φ a ops hall hr, if_true]
    exact e3 φ rd a w F next Q hr hh hD hF hn hnext
  have no : (∀ K, evG s ρ ⟨g, c, d⟩ D h k K = K undf D h k) → (∀ (φ : Phi) (a : Act) (ops : Array Oper), ops.toList = all → RhoOk φ oc ρ a.eval → Region.wanted o (yielded ops a.tmps) = false) → GuardOk P dyn oc ρ s o all ⟨g, c, d⟩ D h k := by
    intro hK hw
    refine ⟨undf, D, h, k, hK, Nat.le_refl _, fun φ rd a w F next Q ops i hall hi hr hh hD hF hn hnext => ?_⟩
    unfold wpOpIn
    rw [hi]
    simp only [hw φ a ops hall hr, Bool.false_eq_true, if_false]
    exact ⟨fun f _ => hF.fn f, hnext φ undef a.defers w hD (undef_VR φ) (Aft.refl hh)⟩
  cases g with
  | none =>
    refine yes (fun K => rfl) (fun φ a ops hall hr => ?_)
    unfold guardS at hg
    split at hg
    · rename_i hgd; simp [Region.wanted, hgd]
    · split at hg
      · split at hg
        · split at hg <;> cases hg
        · cases hg
      · cases hg
  | some cb =>
    obtain ⟨gc, b⟩ := cb
    cases hv : ρ gc with
    | none => simp only [evG, hv] at he; cases he
    | some v =>
      by_cases hb : ∃ y, v = .b y
      · obtain ⟨y, rfl⟩ := hb
        cases hyb : (y == b) with
        | true => exact yes (fun K => by simp only [evG, hv, hyb, cond_true]) (fun φ a ops hall hr => by rw [yielded_ok hr hall hg hv]; exact hyb)
        | false => exact no (fun K => by simp only [evG, hv, hyb, cond_false]) (fun φ a ops hall hr => by rw [yielded_ok hr hall hg hv]; exact hyb)
      · refine no (fun K => ?_) (fun φ a ops hall hr => ?_)
        · simp only [evG, hv]
          cases v <;> first | rfl | exact absurd ⟨_, rfl⟩ hb
        · rw [yielded_ok hr hall hg hv]
          cases v <;> first | rfl | exact absurd ⟨_, rfl⟩ hb

/-- slots that a region keeps by itself. -/
structure LR (φ : Phi) (gm nt : Nat) (sc : List Nat) (L : List AV) (tmps : Array Value) : Prop where
  len : sc.length = L.length
  slot : ∀ (i : Nat) (t : Nat) (v : AV), sc[i]? = some t → L[i]? = some v → kept gm t = false ∧ t < nt ∧ ∃ v', tmps[t]? = some v' ∧ VR φ v v'

theorem rhoS {φ : Phi} {gm nt : Nat} {sc : List Nat} {L : List AV} {F : TT AV} {a : Act} (hT : TR φ gm nt (fun p => F.get p) a.tmps) (hL : LR φ gm nt sc L a.tmps) : RhoOk φ (ocS gm nt sc) (rv F L .e) a.eval := by
  intro o c v hc hv
  cases o with
  | tmp t =>
    simp only [ocS] at hc
    rcases cond_eq_true hc with ⟨_, hc⟩ | ⟨_, hc⟩
    · rcases cond_eq_true hc with ⟨hlt, hc⟩ | ⟨_, hc⟩
      · cases hc
        rw [blt_iff] at hlt
        obtain ⟨_, v', h1, h2⟩ := hT.slot t v (by simpa using hlt) hv
        simp only [Act.eval, Array.getD_eq_getD_getElem?, h1, Option.getD_some]
        exact h2
      · cases hc
    · obtain ⟨i, hi, hci⟩ := Option.map_eq_some_iff.1 hc
      cases hci
      simp only [rv, nth_eq] at hv
      have hsc : sc[i]? = some t := by
        rw [List.idxOf?, List.findIdx?_eq_some_iff_getElem] at hi
        obtain ⟨hlt, hb, _⟩ := hi
        rw [List.getElem?_eq_getElem hlt]
        simpa using hb
      obtain ⟨_, _, v', h1, h2⟩ := hL.slot i t v hsc hv
      simp only [Act.eval, Array.getD_eq_getD_getElem?, h1, Option.getD_some]
      exact h2
  | const u =>
    obtain ⟨v0, h1, h2⟩ := Option.map_eq_some_iff.1 hc
    cases h2
    cases hv
    exact const_VR 3 u v h1
  | func f =>
    simp only [ocS] at hc
    rcases cond_eq_true hc with ⟨hlt, hc⟩ | ⟨_, hc⟩
    · cases hc
      cases hv
      rw [blt_iff] at hlt
      have := VR.f (φ := φ) (pos f) [] [] [] [] .nil .nil
      rw [pos_num (by simpa using hlt)] at this
      exact this
    · cases hc
  | global g => cases hc

theorem frc_eq (v : AV) (K : AV → R) : frc v K = K v := by
  unfold frc
  split
  · split <;> rfl
  · split <;> rfl
  · rfl
  · rfl
  · rfl

theorem TR.put {φ : Phi} {gm nt : Nat} {F : TT AV} {tmps : Array Value} (hnt : nt ≤ 65536) (hT : TR φ gm nt (fun p => F.get p) tmps) {d : Nat} (hd : d < nt) (hk : kept gm d = true) {v : AV} {v' : Value} (hv : VR φ v v') : TR φ gm nt (fun p => (F.put (pos d) (some v)).get p) (tmps.setIfInBounds d v') := by
  refine ⟨by simp [hT.size], fun u y hu hy => ?_⟩
  rw [get_put] at hy
  split at hy
  · rename_i e
    have : u = d := pos_inj (Nat.lt_of_lt_of_le hu (Nat.le_trans hnt (by omega))) (Nat.lt_of_lt_of_le hd (Nat.le_trans hnt (by omega))) e
    subst this
    cases hy
    exact ⟨hk, v', by simp [hT.size, hu], hv⟩
  · rename_i hne
    obtain ⟨a, v2, b, c⟩ := hT.slot u y hu hy
    have : d ≠ u := fun e => hne (by rw [e])
    exact ⟨a, v2, by rw [Array.getElem?_setIfInBounds_ne this]; exact b, c⟩
theorem TR.other {φ : Phi} {gm nt : Nat} {F : Pos → Option AV} {tmps : Array Value} (hT : TR φ gm nt F tmps) {d : Nat} (hk : kept gm d = false) (v' : Value) : TR φ gm nt F (tmps.setIfInBounds d v') := by
  refine ⟨by simp [hT.size], fun u y hu hy => ?_⟩
  obtain ⟨a, v2, b, c⟩ := hT.slot u y hu hy
  have : d ≠ u := fun e => by subst e; rw [hk] at a; cases a
  exact ⟨a, v2, by rw [Array.getElem?_setIfInBounds_ne this]; exact b, c⟩
theorem LR.mono {φ φ' : Phi} (hle : φ.le φ') {gm nt : Nat} {sc : List Nat} {L : List AV} {tmps : Array Value} (h : LR φ gm nt sc L tmps) : LR φ' gm nt sc L tmps :=
  ⟨h.len, fun i t v hi hv => let ⟨a, b, v', c, d⟩ := h.slot i t v hi hv; ⟨a, b, v', c, d.mono hle⟩⟩

theorem run_ok {s : Sf} (hs : SfOk P dyn s) {gm nt : Nat} (hnt : nt ≤ 65536) {ops : Array Oper} : ∀ (n i : Nat) (sc : List Nat) (l : List RI) (F : TT AV) (L : List AV) (D : List AD) (h : TT AO) (k : Pos) (x : X) (F1 : TT AV) (D1 : List AD) (h1 : TT AO) (k1 : Pos),
    i + n = ops.size → compOps P dyn gm nt ops.toList sc (ops.toList.drop i) = some l → run s l F L D h k = .go x F1 D1 h1 k1 → x = .nrm ∧ k.num ≤ k1.num ∧
    ∀ (φ : Phi) (rd : Option Pos) (a : Act) (w : World) (Fn : Fence) (Q : Exit → Act → World → Prop), TR φ gm nt (fun p => F.get p) a.tmps → LR φ gm nt sc L a.tmps → DR φ rd D a.defers → Fc φ rd Fn → HR P dyn φ (fun p => h.get p) w → New φ k k1 →
      (∀ φ1 a1 w1, TR φ1 gm nt (fun p => F1.get p) a1.tmps → DR φ1 rd D1 a1.defers → Aft P dyn φ h w k φ1 h1 w1 k1 → Q .normal a1 w1) → wpOpsIn Fn 0 P ops Q (List.range' i n) a w := by
  intro n
  induction n with
  | zero =>
    intro i sc l F L D h k x F1 D1 h1 k1 hin hc he
    have : ops.toList.drop i = [] := List.drop_eq_nil_iff.2 (by simp; omega)
    rw [this] at hc
    cases hc
    cases he
    refine ⟨rfl, Nat.le_refl _, fun φ rd a w Fn Q hT _ hD _ hh _ hQ => ?_⟩
    exact hQ φ a w hT hD (Aft.refl hh)
  | succ n ih =>
    intro i sc l F L D h k x F1 D1 h1 k1 hin hc he
    have hlt : i < ops.size := by omega
    have hdrop : ops.toList.drop i = ops[i] :: ops.toList.drop (i + 1) := by
      rw [List.drop_eq_getElem_cons (by simpa using hlt)]
      simp
    have hi : ops[i]? = some ops[i] := Array.getElem?_eq_getElem hlt
    rw [hdrop] at hc
    simp only [compOps] at hc
    generalize ops[i] = o at hc hi hdrop
    cases hco : compOper P dyn (ocS gm nt sc) o with
    | none => rw [hco] at hc; cases hc
    | some c =>
      rw [hco] at hc
      cases hgo : guardS (ocS gm nt sc) ops.toList o with
      | none => rw [hgo] at hc; cases hc
      | some g =>
        rw [hgo] at hc
        simp only at hc
        have fin : ∀ (d : Dst) (l' : List RI) (sc' : List Nat) (nF : AV → TT AV) (nL : AV → List AV), l = ⟨g, c, d⟩ :: l' → compOps P dyn gm nt ops.toList sc' (ops.toList.drop (i + 1)) = some l' →
            (∀ v D h k, (match d with | .no => run s l' F L D h k | .lo => run s l' F (v :: L) D h k | .gl p => run s l' (F.put p (some v)) L D h k | .ex _ => .bad 44) = run s l' (nF v) (nL v) D h k) →
            (∀ (φ : Phi) (tmps : Array Value) (v : AV) (v' : Value) (a : Act), a.tmps = tmps → TR φ gm nt (fun p => F.get p) tmps → LR φ gm nt sc L tmps → VR φ v v' → TR φ gm nt (fun p => (nF v).get p) (a.put o.dst v').tmps ∧ LR φ gm nt sc' (nL v) (a.put o.dst v').tmps) →
            x = .nrm ∧ k.num ≤ k1.num ∧ ∀ (φ : Phi) (rd : Option Pos) (a : Act) (w : World) (Fn : Fence) (Q : Exit → Act → World → Prop), TR φ gm nt (fun p => F.get p) a.tmps → LR φ gm nt sc L a.tmps → DR φ rd D a.defers → Fc φ rd Fn → HR P dyn φ (fun p => h.get p) w → New φ k k1 →
              (∀ φ1 a1 w1, TR φ1 gm nt (fun p => F1.get p) a1.tmps → DR φ1 rd D1 a1.defers → Aft P dyn φ h w k φ1 h1 w1 k1 → Q .normal a1 w1) → wpOpsIn Fn 0 P ops Q (List.range' i (n + 1)) a w := by
          intro d l' sc' nF nL hl hc' hnext hput
          subst hl
          change evG s (rv F L .e) ⟨g, c, d⟩ D h k (fun v D h k => frc v fun v => match (generalizing := false) d with | .no => run s l' F L D h k | .lo => run s l' F (v :: L) D h k | .gl p => run s l' (F.put p (some v)) L D h k | .ex _ => .bad 44) = _ at he
          obtain ⟨v, D2, h2, k2, e1, e2, e3⟩ := guard_ok hs hco hgo he
          replace he := (e1 _).symm.trans he
          simp only [frc_eq] at he
          rw [hnext] at he
          obtain ⟨f1, f2, f3⟩ := ih (i + 1) sc' l' (nF v) (nL v) D2 h2 k2 x F1 D1 h1 k1 (by omega) hc' he
          refine ⟨f1, Nat.le_trans e2 f2, fun φ rd a w Fn Q hT hL hD hF hh hn hQ => ?_⟩
          rw [List.range'_succ, wpOpsIn_cons]
          refine e3 φ rd a w Fn _ Q ops i rfl hi (rhoS hT hL) hh hD hF (hn.left f2) (fun φ1 v' ds w1 hD1 hv hA => ?_)
          have hle : φ.le φ1 := hA.le (hn.left f2)
          obtain ⟨g1, g2⟩ := hput φ1 a.tmps v v' { a with defers := ds } rfl (hT.mono hle) (hL.mono hle) hv
          have hpd : (({ a with defers := ds } : Act).put o.dst v').defers = ds := by cases o.dst <;> rfl
          refine f3 φ1 rd _ w1 Fn Q g1 g2 (by rw [hpd]; exact hD1) (hF.mono hle) hA.hr (hn.right e2 hA.gr) (fun φ2 a2 w2 hT2 hD2 hA2 => ?_)
          exact hQ φ2 a2 w2 hT2 hD2 (Aft.trans e2 f2 hA hA2)
        cases hdst : o.dst with
        | none =>
          rw [hdst] at hc
          obtain ⟨l', hl', rfl⟩ := Option.map_eq_some_iff.1 hc
          exact fin .no l' sc (fun _ => F) (fun _ => L) rfl hl' (fun _ _ _ _ => rfl) (fun φ tmps v v' a ha hT hL hv => by subst ha; rw [hdst]; exact ⟨hT, hL⟩)
        | some d =>
          rw [hdst] at hc
          simp only at hc
          rcases cond_eq_true hc with ⟨hd, hc⟩ | ⟨_, hc⟩
          · rw [blt_iff] at hd
            have hd : d < nt := by simpa using hd
            rcases cond_eq_true hc with ⟨hk, hc⟩ | ⟨hk, hc⟩
            · obtain ⟨l', hl', rfl⟩ := Option.map_eq_some_iff.1 hc
              refine fin (.gl (pos d)) l' sc (fun v => F.put (pos d) (some v)) (fun _ => L) rfl hl' (fun _ _ _ _ => rfl) (fun φ tmps v v' a ha hT hL hv => ?_)
              subst ha
              rw [hdst]
              refine ⟨TR.put hnt hT hd hk hv, hL.len, fun i t y hi hy => ?_⟩
              obtain ⟨a1, a2, y', a3, a4⟩ := hL.slot i t y hi hy
              have : d ≠ t := fun e => by subst e; rw [hk] at a1; cases a1
              exact ⟨a1, a2, y', by simp only [Act.put]; rw [Array.getElem?_setIfInBounds_ne this]; exact a3, a4⟩
            · rcases cond_eq_true hc with ⟨_, hc⟩ | ⟨hcon, hc⟩
              · cases hc
              · obtain ⟨l', hl', rfl⟩ := Option.map_eq_some_iff.1 hc
                refine fin .lo l' (d :: sc) (fun _ => F) (fun v => v :: L) rfl hl' (fun _ _ _ _ => rfl) (fun φ tmps v v' a ha hT hL hv => ?_)
                subst ha
                rw [hdst]
                refine ⟨TR.other hT hk v', by simp [hL.len], fun i t y hi hy => ?_⟩
                cases i with
                | zero =>
                  simp at hi hy
                  subst hi hy
                  exact ⟨hk, hd, v', by simp [Act.put, hT.size, hd], hv⟩
                | succ i =>
                  simp at hi hy
                  obtain ⟨a1, a2, y', a3, a4⟩ := hL.slot i t y hi hy
                  have : d ≠ t := fun e => by
                    subst e
                    have : d ∈ sc := List.mem_of_getElem? hi
                    simp [this] at hcon
                  exact ⟨a1, a2, y', by simp only [Act.put]; rw [Array.getElem?_setIfInBounds_ne this]; exact a3, a4⟩
          · cases hc
end
end Go.Ev
namespace Go.Ev
open Go

structure SfMono (s : Sf) : Prop where
  ca : ∀ f l h k v h1 k1, s.ca f l h k = .go v h1 k1 → k.num ≤ k1.num
  ex : ∀ c rd F D h k x F1 D1 h1 k1, s.ex c rd F D h k = .go x F1 D1 h1 k1 → k.num ≤ k1.num

section
variable {s : Sf} (hs : SfMono s)
include hs

theorem callV_mono {fv : AV} {l : List AV} {h : TT AO} {k : Pos} {v : AV} {h1 : TT AO} {k1 : Pos} (he : callV s fv l h k = .go v h1 k1) : k.num ≤ k1.num := by
  unfold callV at he
  split at he
  · exact hs.ca _ _ _ _ _ _ _ he
  · split at he
    · split at he
      · split at he
        · rename_i hea
          have h1 := hs.ex _ _ _ _ _ _ _ _ _ _ _ hea
          split at he
          · split at he
            · rename_i heb
              have h2 := hs.ex _ _ _ _ _ _ _ _ _ _ _ heb
              split at he
              · split at he <;> cases he <;> exact Nat.le_trans h1 h2
              · cases he
            · cases he
          · cases he
        · cases he
        · cases he
      · cases he
    · cases he
  · cases he

def Goes (K : KT) (r : R) (k : Pos) (v : AV) (D : List AD) (h : TT AO) (k1 : Pos) : Prop := k.num ≤ k1.num ∧ r = K v D h k1

theorem evEf_mono {ρ : Rho} {p : EfOp} {D : List AD} {h : TT AO} {k : Pos} {K : KT} {x : X} {F' : TT AV} {D' : List AD} {h' : TT AO} {k' : Pos} (he : evEf s ρ p D h k K = .go x F' D' h' k') :
    ∃ v D1 h1 k1, k.num ≤ k1.num ∧ K v D1 h1 k1 = .go x F' D' h' k' := by
  have hsucc : k.num ≤ k.succ.num := by rw [Pos.num_succ]; omega
  cases p with
  | iv t r l =>
    simp only [evEf] at he
    split at he
    · rw [each_find] at he
      split at he
      · split at he
        · split at he
          · rename_i hca; exact ⟨_, _, _, _, hs.ca _ _ _ _ _ _ _ hca, he⟩
          · cases he
        · split at he
          · split at he
            · rename_i hca; exact ⟨_, _, _, _, hs.ca _ _ _ _ _ _ _ hca, he⟩
            · cases he
          · cases he
      · cases he
    · cases he
  | ca f l =>
    simp only [evEf] at he
    split at he
    · split at he
      · rename_i hca; exact ⟨_, _, _, _, callV_mono hs hca, he⟩
      · cases he
    · cases he
  | ap a b c d =>
    simp only [evEf] at he
    split at he
    · split at he
      · rename_i hw
        refine ⟨_, _, _, _, ?_, he⟩
        rcases apnd_k hw with rfl | rfl
        · exact Nat.le_refl _
        · exact hsucc
      · cases he
    · cases he
  | _ =>
    simp only [evEf] at he
    repeat' first
      | (cases he; done)
      | exact ⟨_, _, _, _, Nat.le_refl _, he⟩
      | exact ⟨_, _, _, _, hsucc, he⟩
      | (split at he)
      | (rcases cond_eq_true he with ⟨_, he⟩ | ⟨_, he⟩)

theorem evOp_mono {ρ : Rho} {p : COp} {D : List AD} {h : TT AO} {k : Pos} {K : KT} {x : X} {F' : TT AV} {D' : List AD} {h' : TT AO} {k' : Pos} (he : evOp s ρ p D h k K = .go x F' D' h' k') :
    ∃ v D1 h1 k1, k.num ≤ k1.num ∧ K v D1 h1 k1 = .go x F' D' h' k' := by
  have hsucc : k.num ≤ k.succ.num := by rw [Pos.num_succ]; omega
  cases p with
  | ef p => exact evEf_mono hs he
  | _ =>
    simp only [evOp] at he
    repeat' first
      | (cases he; done)
      | exact ⟨_, _, _, _, Nat.le_refl _, he⟩
      | exact ⟨_, _, _, _, hsucc, he⟩
      | (split at he)
theorem evG_mono {ρ : Rho} {r : RI} {D : List AD} {h : TT AO} {k : Pos} {K : KT} {x : X} {F' : TT AV} {D' : List AD} {h' : TT AO} {k' : Pos} (he : evG s ρ r D h k K = .go x F' D' h' k') :
    ∃ v D1 h1 k1, k.num ≤ k1.num ∧ K v D1 h1 k1 = .go x F' D' h' k' := by
  unfold evG at he
  split at he
  · exact evOp_mono hs he
  · split at he
    · rcases cond_eq_true he with ⟨_, he⟩ | ⟨_, he⟩
      · exact evOp_mono hs he
      · exact ⟨_, _, _, _, Nat.le_refl _, he⟩
    · exact ⟨_, _, _, _, Nat.le_refl _, he⟩
    · cases he

theorem run_mono : ∀ (l : List RI) {F : TT AV} {L : List AV} {D : List AD} {h : TT AO} {k : Pos} {x : X} {F' : TT AV} {D' : List AD} {h' : TT AO} {k' : Pos}, run s l F L D h k = .go x F' D' h' k' → k.num ≤ k'.num
  | [], _, _, _, _, _, _, _, _, _, _, he => by cases he; exact Nat.le_refl _
  | r :: l, _, _, _, _, _, _, _, _, _, _, he => by
    obtain ⟨v, D1, h1, k1, h2, h3⟩ := evG_mono hs he
    rw [frc_eq] at h3
    split at h3
    · exact Nat.le_trans h2 (run_mono l h3)
    · exact Nat.le_trans h2 (run_mono l h3)
    · exact Nat.le_trans h2 (run_mono l h3)
    · cases h3

theorem drun_mono {F : TT AV} {K : TT AV → List AD → TT AO → Pos → R} {x : X} {F' : TT AV} {D' : List AD} {h' : TT AO} {k' : Pos} (hK : ∀ E D h k, K E D h k = .go x F' D' h' k' → k.num ≤ k'.num) {hb : TT AO} :
    ∀ (l : List RI) {E : TT AV} {D : List AD} {h : TT AO} {k : Pos}, drun s F K hb l E D h k = .go x F' D' h' k' → k.num ≤ k'.num
  | [], _, _, _, _, he => hK _ _ _ _ he
  | r :: l, E, D, h, k, he => by
    change (match r.d with
      | .ex p => (match E.get p, r.o with
        | none, .rd _ => evG s (rv F [] E) r D hb k fun v D _ k => frc v fun v => drun s F K hb l (E.put p (some v)) D h k
        | none, _ => evG s (rv F [] E) r D h k fun v D h k => frc v fun v => drun s F K hb l (E.put p (some v)) D h k
        | some _, _ => .bad 48)
      | _ => .bad 45) = _ at he
    split at he
    · split at he
      · obtain ⟨v, D1, h1, k1, h2, h3⟩ := evG_mono hs he
        rw [frc_eq] at h3
        exact Nat.le_trans h2 (drun_mono hK l h3)
      · obtain ⟨v, D1, h1, k1, h2, h3⟩ := evG_mono hs he
        rw [frc_eq] at h3
        exact Nat.le_trans h2 (drun_mono hK l h3)
      · cases he
    · cases he
omit hs in
theorem dph_end {gs : List (Pos × Pos)} {E : TT AV} {D : List AD} {h : TT AO} {k : Pos} {x : X} {F' : TT AV} {D' : List AD} {h' : TT AO} {k' : Pos} : ∀ {F : TT AV}, dend F gs E D h k = .go x F' D' h' k' → x = .nrm ∧ D' = D ∧ h' = h ∧ k' = k := by
  induction gs with
  | nil => intro F he; cases he; exact ⟨rfl, rfl, rfl, rfl⟩
  | cons g gs ih =>
    intro F he
    change (match E.get g.2 with | some v => dend (F.put g.1 (some v)) gs E D h k | none => .bad 46) = _ at he
    split at he
    · exact ih he
    · cases he
theorem dph_mono {F : TT AV} {gs : List (Pos × Pos)} {x : X} {F' : TT AV} {D' : List AD} {h' : TT AO} {k' : Pos} : ∀ (ph : List Ph) {E : TT AV} {D : List AD} {h : TT AO} {k : Pos}, dph s F gs ph E D h k = .go x F' D' h' k' → k.num ≤ k'.num
  | [], E, D, h, k, he => by
    have he : dend F gs E D h k = _ := he
    obtain ⟨_, _, _, h4⟩ := dph_end he
    rw [h4]; exact Nat.le_refl _
  | p :: ph, E0, D0, h0, k0, he => by
    change drun s F (fun E D h k => cond (chkAll E F h p.c) (drun s F (dph s F gs ph) h p.l E D h k) (.bad 47)) h0 [p.e] E0 D0 h0 k0 = _ at he
    refine drun_mono hs (fun E D h k hk => ?_) [p.e] he
    rcases cond_eq_true hk with ⟨_, hk⟩ | ⟨_, hk⟩
    · exact drun_mono hs (fun E D h k hk => dph_mono ph hk) p.l hk
    · cases hk

theorem stX_mono {c : CC} {rd : Option Pos} {F : TT AV} {D : List AD} {h : TT AO} {k : Pos} {x : X} {F1 : TT AV} {D1 : List AD} {h1 : TT AO} {k1 : Pos} (he : stX s c rd F D h k = .go x F1 D1 h1 k1) : k.num ≤ k1.num := by
  have hsucc : ∀ k : Pos, k.num ≤ k.succ.num := fun k => by rw [Pos.num_succ]; omega
  cases c with
  | sq a b =>
    simp only [stX] at he
    split at he
    · rename_i h2; exact Nat.le_trans (hs.ex _ _ _ _ _ _ _ _ _ _ _ h2) (hs.ex _ _ _ _ _ _ _ _ _ _ _ he)
    · exact hs.ex _ _ _ _ _ _ _ _ _ _ _ he
  | cd c a b =>
    simp only [stX] at he
    split at he
    · exact hs.ex _ _ _ _ _ _ _ _ _ _ _ he
    · exact hs.ex _ _ _ _ _ _ _ _ _ _ _ he
    · cases he
  | bk id a =>
    simp only [stX] at he
    split at he
    · rename_i h2
      rcases cond_eq_true he with ⟨_, he⟩ | ⟨_, he⟩ <;> cases he <;> exact hs.ex _ _ _ _ _ _ _ _ _ _ _ h2
    · exact hs.ex _ _ _ _ _ _ _ _ _ _ _ he
  | lo a =>
    simp only [stX] at he
    split at he
    · rename_i h2; exact Nat.le_trans (hs.ex _ _ _ _ _ _ _ _ _ _ _ h2) (hs.ex _ _ _ _ _ _ _ _ _ _ _ he)
    · exact hs.ex _ _ _ _ _ _ _ _ _ _ _ he
  | rf f ps a b =>
    simp only [stX] at he
    split at he
    · split at he
      · split at he
        · rename_i hcv
          have h3 := callV_mono hs hcv
          have : k.num ≤ k1.num → k.num ≤ k1.num := id
          split at he
          · cases he
          · split at he <;> cases he <;> exact Nat.le_trans (Nat.le_trans (hsucc k) (hsucc _)) h3
          · cases he
        · cases he
      · split at he
        · split at he
          · rename_i hcv
            have h3 := callV_mono hs hcv
            split at he
            · cases he
            · split at he <;> cases he <;> exact Nat.le_trans (hsucc k) h3
            · cases he
          · cases he
        · cases he
    · cases he
  | rg l => exact run_mono hs l he
  | dr l ph gs => exact drun_mono hs (fun E D h k hk => dph_mono hs ph hk) l he
  | sc a => exact hs.ex _ _ _ _ _ _ _ _ _ _ _ he
  | no => cases he
  | _ => cases he; exact Nat.le_refl _

omit hs in
theorem lv_mono {quiet : Pos → Bool} {F : TT AV} {rs : List CR} {k : Pos} : ∀ {D : List AD} {h : TT AO} {v : AV} {h1 : TT AO} {k1 : Pos}, lv quiet F rs k D h = .go v h1 k1 → k1 = k
  | [], h, v, h1, k1, he => by
    change (match res F h rs with | some [v] => RV.go v h k | some l => .go (.tu l) h k | none => .bad 60) = _ at he
    split at he <;> cases he <;> rfl
  | d :: D, h, v, h1, k1, he => by
    cases d with
    | mk n =>
      change (match h.get n with | some .df => lv quiet F rs k D (h.put n (some .dd)) | _ => .bad 61) = _ at he
      split at he
      · exact lv_mono he
      · cases he
    | fn f l =>
      change cond (quiet f) (lv quiet F rs k D h) (.bad 62) = _ at he
      rcases cond_eq_true he with ⟨_, he⟩ | ⟨_, he⟩
      · exact lv_mono he
      · cases he
    | rnd => cases he
theorem stC_mono {T : TT CFn} {quiet : Pos → Bool} {f : Pos} {l : List AV} {h : TT AO} {k : Pos} {v : AV} {h1 : TT AO} {k1 : Pos} (he : stC T quiet s f l h k = .go v h1 k1) : k.num ≤ k1.num := by
  unfold stC at he
  split at he
  · split at he
    · split at he
      · rename_i h2
        rw [lv_mono he]
        exact hs.ex _ _ _ _ _ _ _ _ _ _ _ h2
      · rename_i h2
        rw [lv_mono he]
        exact hs.ex _ _ _ _ _ _ _ _ _ _ _ h2
      · cases he
      · cases he
    · cases he
  · cases he
end

theorem self_mono (T : TT CFn) (quiet : Pos → Bool) : ∀ n, SfMono (self T quiet n)
  | 0 => by
    constructor
    · intro f l h k v h1 k1 he
      have he : RV.bad 71 = .go v h1 k1 := he
      cases he
    · intro c rd F D h k x F1 D1 h1 k1 he
      have he : R.bad 70 = .go x F1 D1 h1 k1 := he
      cases he
  | n + 1 => ⟨fun _ _ _ _ _ _ _ h => stC_mono (self_mono T quiet n) h, fun _ _ _ _ _ _ _ _ _ _ _ h => stX_mono (self_mono T quiet n) h⟩
end Go.Ev
namespace Go.Ev
open Go

section rules
variable {F : Fence} {n : Nat} {P : Program} {Q : Exit → Act → World → Prop} {a : Act} {w : World}

theorem isSk_wp : ∀ (c : Code), isSk c = true → ∀ {Q : Exit → Act → World → Prop} {a : Act} {w : World}, Q .normal a w → c.wpIn F n P Q a w
  | .skip, _, _, _, _, h => wpIn_skip h
  | .label _, _, _, _, _, h => wpIn_label h
  | .seq x y, hk, _, _, _, h => by
    simp only [isSk, Bool.and_eq_true] at hk
    exact wpIn_seq (isSk_wp x hk.1 (isSk_wp y hk.2 h))
  | .region _ _ _, hk, _, _, _, _ => by cases hk
  | .cond _ _ _, hk, _, _, _, _ => by cases hk
  | .block _ _, hk, _, _, _, _ => by cases hk
  | .loop _, hk, _, _, _, _ => by cases hk
  | .rangeFunc _ _ _ _, hk, _, _, _, _ => by cases hk
  | .exit _, hk, _, _, _, _ => by cases hk
  | .ret, hk, _, _, _, _ => by cases hk
  | .scope _, hk, _, _, _, _ => by cases hk
  | .goto _, hk, _, _, _, _ => by cases hk
  | .refuse _, hk, _, _, _, _ => by cases hk

theorem stepR_scope {b : Frame} {k : List Item} {cs : List Frame} {c : Code} : step P (lone (b.atR a (.code (.scope c) :: k)) cs w) = .next (lone (b.atR a (.code c :: .inScope c :: k)) cs w) :=
  step_lone_go (by simp [stepG, stepG.exec, Frame.atR])
theorem stepR_inScope {b : Frame} {k : List Item} {cs : List Frame} {c : Code} : step P (lone (b.atR a (.inScope c :: k)) cs w) = .next (lone (b.atR a k) cs w) :=
  step_lone_go (by simp [stepG, stepG.exec, Frame.atR])
theorem wpIn_scope {c : Code} (h : c.wpIn F n P (fun e a w => (∀ l, e ≠ .goto l) ∧ Q e a w) a w) : (Code.scope c).wpIn F n P Q a w := by
  intro b k cs hro hb hr
  have h0 : (lone (b.atR a (.code (.scope c) :: k)) cs w).fenced P F := fenced_calm hb hr rfl
  obtain ⟨e, a₁, w₁, ⟨hng, hq⟩, harr⟩ := h b (.inScope c :: k) cs hro hb hr
  cases e with
  | normal => exact ⟨.normal, a₁, w₁, hq, .head h0 stepR_scope (StepsIn.trans harr (.one (fenced_calm hb hr rfl) stepR_inScope))⟩
  | exit id =>
    have hx : exitTo id (.inScope c :: k) = exitTo id k := by simp [exitTo]
    exact ⟨.exit id, a₁, w₁, hq, fun k' hk => .head h0 stepR_scope (harr.1 k' (by rw [hx]; exact hk)),
      fun hr' hk => let ⟨k₁, h1, h2⟩ := harr.2 hr' (by rw [hx]; exact hk); ⟨k₁, h1, .head h0 stepR_scope h2⟩⟩
  | goto l => exact (hng l rfl).elim
  | ret => exact ⟨_, a₁, w₁, hq, .of_steps (.one h0 stepR_scope) harr⟩
  | panic ch => exact ⟨_, a₁, w₁, hq, .of_steps (.one h0 stepR_scope) harr⟩
  | outgrown => exact ⟨_, a₁, w₁, hq, .of_steps (.one h0 stepR_scope) harr⟩

theorem then_mono {K K' : Act → World → Prop} {Q' : Exit → Act → World → Prop} (hK : ∀ a w, K a w → K' a w) (hQ : ∀ e a w, Q e a w → Q' e a w) : ∀ e a w, Exit.then K Q e a w → Exit.then K' Q' e a w := by
  intro e a w h
  cases e with
  | normal => exact hK _ _ h
  | _ => exact hQ _ _ _ h
theorem rounds_mono {c : Code} {Q' : Exit → Act → World → Prop} (hQ : ∀ e a w, Q e a w → Q' e a w) : ∀ (m : Nat) (a : Act) (w : World), Code.roundsIn F n P c Q m a w → Code.roundsIn F n P c Q' m a w
  | 0, _, _, h => h.elim
  | m + 1, _a, _w, h => wpIn_mono h (then_mono (rounds_mono hQ m) hQ)
end rules

theorem exitOf_goto (x : X) (l : Nat) : exitOf x ≠ .goto l := by cases x <;> simp [exitOf]

section
variable {P : Program} {dyn : List TypeId}

theorem CPost.trans {φ φ1 : Phi} {rd : Option Pos} {gm nt : Nat} {h h1 : TT AO} {w w1 : World} {k k1 : Pos} {x : X} {F2 : TT AV} {D2 : List AD} {h2 : TT AO} {k2 : Pos} (l1 : k.num ≤ k1.num) (l2 : k1.num ≤ k2.num) (hA : Aft P dyn φ h w k φ1 h1 w1 k1)
    {e : Exit} {a : Act} {w' : World} (hp : CPost P dyn φ1 rd gm nt h1 w1 k1 x F2 D2 h2 k2 e a w') : CPost P dyn φ rd gm nt h w k x F2 D2 h2 k2 e a w' := by
  obtain ⟨he, φ2, a1, a2, a3⟩ := hp
  exact ⟨he, φ2, a1, a2, Aft.trans l1 l2 hA a3⟩

/-- what is asked of a loop's run: so many rounds. -/
def LoOk (P : Program) (dyn : List TypeId) (ex : CC → Option Pos → TT AV → List AD → TT AO → Pos → R) : Prop :=
  ∀ c rd F D h k x F1 D1 h1 k1, ex (.lo c) rd F D h k = .go x F1 D1 h1 k1 → ∃ m,
    ∀ code gm nt hint, compH P dyn gm nt code hint = some c → nt ≤ 65536 → ∀ φ w a Fn, TR φ gm nt (fun p => F.get p) a.tmps → DR φ rd D a.defers → Fc φ rd Fn → HR P dyn φ (fun p => h.get p) w → New φ k k1 →
      code.roundsIn Fn 0 P (CPost P dyn φ rd gm nt h w k x F1 D1 h1 k1) m a w
/-- what is asked of regions that draw. -/
def DrOk (P : Program) (dyn : List TypeId) (s : Sf) : Prop :=
  ∀ id ops gm nt l ph gs, compDraw P dyn gm nt ops = some (.dr l ph gs) → nt ≤ 65536 → ∀ rd F D h k x F1 D1 h1 k1, drun s F (dph s F gs ph) h l .e D h k = .go x F1 D1 h1 k1 →
    ∀ φ w a Fn, TR φ gm nt (fun p => F.get p) a.tmps → DR φ rd D a.defers → Fc φ rd Fn → HR P dyn φ (fun p => h.get p) w → New φ k k1 →
      (Code.region id ops true).wpIn Fn 0 P (CPost P dyn φ rd gm nt h w k x F1 D1 h1 k1) a w
structure SfAll (P : Program) (dyn : List TypeId) (s : Sf) : Prop where
  ok : SfOk P dyn s
  mono : SfMono s
  lo : LoOk P dyn s.ex
  dr : DrOk P dyn s

theorem cpost_here {φ : Phi} {rd : Option Pos} {gm nt : Nat} {h : TT AO} {w : World} {k : Pos} {x : X} {F : TT AV} {D : List AD} {a : Act} (hT : TR φ gm nt (fun p => F.get p) a.tmps) (hD : DR φ rd D a.defers) (hh : HR P dyn φ (fun p => h.get p) w) :
    CPost P dyn φ rd gm nt h w k x F D h k (exitOf x) a w := ⟨rfl, φ, hT, hD, Aft.refl hh⟩

theorem lr_nil (φ : Phi) (gm nt : Nat) (tmps : Array Value) : LR φ gm nt [] [] tmps := ⟨rfl, fun i t v h => by simp at h⟩

theorem lo_ok {s : Sf} (hs : SfAll P dyn s) : LoOk P dyn (stX s) := by
  intro c rd F D h k x F1 D1 h1 k1 he
  simp only [stX] at he
  split at he
  · rename_i F2 D2 h2 k2 hx
    obtain ⟨m, hm⟩ := hs.lo _ _ _ _ _ _ _ _ _ _ _ he
    obtain ⟨l1, hA⟩ := hs.ok.ex _ _ _ _ _ _ _ _ _ _ _ hx
    have l2 := hs.mono.ex _ _ _ _ _ _ _ _ _ _ _ he
    refine ⟨m + 1, fun code gm nt hint hc hnt φ w a Fn hT hD hF hh hn => ?_⟩
    rw [roundsIn_succ]
    refine wpIn_mono (hA code gm nt hint hc hnt φ w a Fn hT hD hF hh (hn.left l2)) ?_
    rintro e a2 w2 ⟨rfl, φ2, hT2, hD2, hA2⟩
    have hle := hA2.le (hn.left l2)
    exact rounds_mono (fun e a w hp => hp.trans l1 l2 hA2) m a2 w2 (hm code gm nt hint hc hnt φ2 w2 a2 Fn hT2 hD2 (hF.mono hle) hA2.hr (hn.right l1 hA2.gr))
  · rename_i hne
    obtain ⟨l1, hA⟩ := hs.ok.ex _ _ _ _ _ _ _ _ _ _ _ he
    refine ⟨1, fun code gm nt hint hc hnt φ w a Fn hT hD hF hh hn => ?_⟩
    rw [roundsIn_succ]
    refine wpIn_mono (hA code gm nt hint hc hnt φ w a Fn hT hD hF hh hn) ?_
    rintro e a2 w2 hp
    have hp' := hp
    obtain ⟨rfl, _⟩ := hp
    cases x with
    | nrm => exact (hne _ _ _ _ he).elim
    | ret => exact hp'
    | ext id => exact hp'

/-- what is asked of a code. -/
def CodeOk (P : Program) (dyn : List TypeId) (s : Sf) (gm nt : Nat) (code : Code) (c : CC) : Prop :=
  ∀ rd F D h k x F1 D1 h1 k1, stX s c rd F D h k = .go x F1 D1 h1 k1 → ∀ φ w a Fn, TR φ gm nt (fun p => F.get p) a.tmps → DR φ rd D a.defers → Fc φ rd Fn → HR P dyn φ (fun p => h.get p) w → New φ k k1 →
    code.wpIn Fn 0 P (CPost P dyn φ rd gm nt h w k x F1 D1 h1 k1) a w

theorem no_ok {s : Sf} {gm nt : Nat} {code : Code} : CodeOk P dyn s gm nt code .no := by
  intro rd F D h k x F1 D1 h1 k1 he
  cases he
theorem orNo_inv {h : CC} {x : Option CC} {c : CC} (hc : orNo h x = some c) : c = .no ∨ x = some c := by
  unfold orNo at hc
  split at hc
  · cases hc; exact .inl rfl
  · exact .inr hc

theorem stX_ok {s : Sf} (hs : SfAll P dyn s) {gm nt : Nat} (hnt : nt ≤ 65536)
    (hrf : ∀ (f : Operand) (ps : Array Tmp) (a b : Code) (x y : CC × CC) (cf : CV), ocS gm nt [] f = some cf → compH P dyn gm nt a x.1 = some x.2 → compH P dyn gm nt b y.1 = some y.2 → (ps.toList.all fun t => kept gm t && Nat.blt t nt) = true → CodeOk P dyn s gm nt (.rangeFunc f ps a b) (.rf cf (ps.toList.map pos) x.2 y.2)) :
    ∀ (code : Code) (hint c : CC), compH P dyn gm nt code hint = some c → CodeOk P dyn s gm nt code c := by
  intro code
  induction code with
  | skip =>
    intro hint c hc
    rcases orNo_inv hc with rfl | hc
    · exact no_ok
    · cases hc
      intro rd F D h k x F1 D1 h1 k1 he φ w a Fn hT hD hF hh hn
      cases he
      exact wpIn_skip (cpost_here hT hD hh)
  | label l =>
    intro hint c hc
    rcases orNo_inv hc with rfl | hc
    · exact no_ok
    · cases hc
      intro rd F D h k x F1 D1 h1 k1 he φ w a Fn hT hD hF hh hn
      cases he
      exact wpIn_label (cpost_here hT hD hh)
  | exit id =>
    intro hint c hc
    rcases orNo_inv hc with rfl | hc
    · exact no_ok
    · cases hc
      intro rd F D h k x F1 D1 h1 k1 he φ w a Fn hT hD hF hh hn
      cases he
      exact wpIn_exit (cpost_here (x := .ext id) hT hD hh)
  | ret =>
    intro hint c hc
    rcases orNo_inv hc with rfl | hc
    · exact no_ok
    · cases hc
      intro rd F D h k x F1 D1 h1 k1 he φ w a Fn hT hD hF hh hn
      cases he
      exact wpIn_ret (cpost_here (x := .ret) hT hD hh)
  | goto l =>
    intro hint c hc
    rcases orNo_inv hc with rfl | hc
    · exact no_ok
    · cases hc
  | refuse l =>
    intro hint c hc
    rcases orNo_inv hc with rfl | hc
    · exact no_ok
    · cases hc
  | region id ops d =>
    intro hint c hc
    rcases orNo_inv hc with rfl | hc
    · exact no_ok
    · cases d with
      | true =>
        simp only [cond_true] at hc
        have hdr : ∃ l ph gs, c = .dr l ph gs := by
          unfold compDraw at hc
          split at hc
          · cases hc
          · rcases cond_eq_true hc with ⟨_, hc⟩ | ⟨_, hc⟩ <;> cases hc; exact ⟨_, _, _, rfl⟩
        obtain ⟨l, ph, gs, rfl⟩ := hdr
        intro rd F D h k x F1 D1 h1 k1 he φ w a Fn hT hD hF hh hn
        exact hs.dr id ops gm nt l ph gs hc hnt rd F D h k x F1 D1 h1 k1 he φ w a Fn hT hD hF hh hn
      | false =>
        simp only [cond_false] at hc
        obtain ⟨l, hl, rfl⟩ := Option.map_eq_some_iff.1 hc
        intro rd F D h k x F1 D1 h1 k1 he φ w a Fn hT hD hF hh hn
        obtain ⟨rfl, l1, hR⟩ := run_ok hs.ok hnt (ops := ops) ops.size 0 [] l F [] D h k x F1 D1 h1 k1 (by omega) (by simpa using hl) he
        refine wpIn_region ?_
        rw [List.range_eq_range']
        exact hR φ rd a w Fn _ hT (lr_nil _ _ _ _) hD hF hh hn (fun φ1 a1 w1 hT1 hD1 hA => ⟨rfl, φ1, hT1, hD1, hA⟩)
  | seq x y ihx ihy =>
    intro hint c hc
    rcases orNo_inv hc with rfl | hc
    · exact no_ok
    · rcases cond_eq_true hc with ⟨hsk, hc⟩ | ⟨_, hc⟩
      · intro rd F D h k e F1 D1 h1 k1 he φ w a Fn hT hD hF hh hn
        exact wpIn_seq (isSk_wp x hsk (ihy _ _ hc rd F D h k e F1 D1 h1 k1 he φ w a Fn hT hD hF hh hn))
      · rcases cond_eq_true hc with ⟨hsk, hc⟩ | ⟨_, hc⟩
        · intro rd F D h k e F1 D1 h1 k1 he φ w a Fn hT hD hF hh hn
          refine wpIn_seq (wpIn_mono (ihx _ _ hc rd F D h k e F1 D1 h1 k1 he φ w a Fn hT hD hF hh hn) ?_)
          intro e' a' w' hp
          cases e' with
          | normal => exact isSk_wp y hsk hp
          | _ => exact hp
        · split at hc
          · split at hc
            · rename_i cx cy hcx hcy
              cases hc
              intro rd F D h k e F1 D1 h1 k1 he φ w a Fn hT hD hF hh hn
              simp only [stX] at he
              split at he
              · rename_i F2 D2 h2 k2 he1
                obtain ⟨l1, hA⟩ := hs.ok.ex _ _ _ _ _ _ _ _ _ _ _ he1
                obtain ⟨l2, hB⟩ := hs.ok.ex _ _ _ _ _ _ _ _ _ _ _ he
                refine wpIn_seq (wpIn_mono (hA x gm nt _ hcx hnt φ w a Fn hT hD hF hh (hn.left l2)) ?_)
                rintro e' a2 w2 ⟨rfl, φ2, hT2, hD2, hA2⟩
                exact wpIn_mono (hB y gm nt _ hcy hnt φ2 w2 a2 Fn hT2 hD2 (hF.mono (hA2.le (hn.left l2))) hA2.hr (hn.right l1 hA2.gr)) (fun e a w hp => hp.trans l1 l2 hA2)
              · rename_i hne
                obtain ⟨l1, hA⟩ := hs.ok.ex _ _ _ _ _ _ _ _ _ _ _ he
                refine wpIn_seq (wpIn_mono (hA x gm nt _ hcx hnt φ w a Fn hT hD hF hh hn) ?_)
                rintro e' a2 w2 hp
                have hp' := hp
                obtain ⟨rfl, _⟩ := hp
                cases e with
                | nrm => exact (hne _ _ _ _ he).elim
                | ret => exact hp'
                | ext id => exact hp'
            · cases hc
          · cases hc
  | cond o x y ihx ihy =>
    intro hint c hc
    simp only [compH] at hc
    split at hc
    · cases hc; exact no_ok
    · rename_i hx hy cv hcv
      split at hc
      · rename_i cx cy hcx hcy
        cases hc
        intro rd F D h k e F1 D1 h1 k1 he φ w a Fn hT hD hF hh hn
        simp only [stX] at he
        have hr := rhoS hT (lr_nil φ gm nt a.tmps)
        split at he
        · rename_i hv
          obtain ⟨l1, hA⟩ := hs.ok.ex _ _ _ _ _ _ _ _ _ _ _ he
          have := hr.one hcv hv
          exact wpIn_cond (t := true) (by generalize a.eval o = u at this; cases this; rfl) (hA x gm nt _ hcx hnt φ w a Fn hT hD hF hh hn)
        · rename_i hv
          obtain ⟨l1, hA⟩ := hs.ok.ex _ _ _ _ _ _ _ _ _ _ _ he
          have := hr.one hcv hv
          exact wpIn_cond (t := false) (by generalize a.eval o = u at this; cases this; rfl) (hA y gm nt _ hcy hnt φ w a Fn hT hD hF hh hn)
        · cases he
      · cases hc
    · cases hc
  | block id x ih =>
    intro hint c hc
    simp only [compH] at hc
    split at hc
    · cases hc; exact no_ok
    · obtain ⟨cx, hcx, rfl⟩ := Option.map_eq_some_iff.1 hc
      intro rd F D h k e F1 D1 h1 k1 he φ w a Fn hT hD hF hh hn
      simp only [stX] at he
      split at he
      · rename_i j F2 D2 h2 k2 he1
        obtain ⟨l1, hA⟩ := hs.ok.ex _ _ _ _ _ _ _ _ _ _ _ he1
        rw [beq_iff] at he
        by_cases hj : j = id
        · subst hj
          simp only [decide_true, cond_true] at he
          cases he
          refine wpIn_block (wpIn_mono (hA x gm nt _ hcx hnt φ w a Fn hT hD hF hh hn) ?_)
          rintro e' a2 w2 ⟨rfl, φ2, hT2, hD2, hA2⟩
          simp only [exitOf, Exit.inBlock, if_true]
          exact ⟨rfl, φ2, hT2, hD2, hA2⟩
        · simp only [hj, decide_false, cond_false] at he
          cases he
          refine wpIn_block (wpIn_mono (hA x gm nt _ hcx hnt φ w a Fn hT hD hF hh hn) ?_)
          rintro e' a2 w2 ⟨rfl, φ2, hT2, hD2, hA2⟩
          simp only [exitOf, Exit.inBlock, hj, if_false]
          exact ⟨rfl, φ2, hT2, hD2, hA2⟩
      · rename_i hne
        obtain ⟨l1, hA⟩ := hs.ok.ex _ _ _ _ _ _ _ _ _ _ _ he
        refine wpIn_block (wpIn_mono (hA x gm nt _ hcx hnt φ w a Fn hT hD hF hh hn) ?_)
        rintro e' a2 w2 hp
        have hp' := hp
        obtain ⟨rfl, _⟩ := hp
        cases e with
        | nrm => exact hp'
        | ret => exact hp'
        | ext j => exact (hne _ _ _ _ _ he).elim
    · cases hc
  | loop x ih =>
    intro hint c hc
    simp only [compH] at hc
    split at hc
    · cases hc; exact no_ok
    · obtain ⟨cx, hcx, rfl⟩ := Option.map_eq_some_iff.1 hc
      intro rd F D h k e F1 D1 h1 k1 he φ w a Fn hT hD hF hh hn
      obtain ⟨m, hm⟩ := lo_ok hs _ _ _ _ _ _ _ _ _ _ _ he
      exact wpIn_loop_rounds m (hm x gm nt _ hcx hnt φ w a Fn hT hD hF hh hn)
    · cases hc
  | scope x ih =>
    intro hint c hc
    simp only [compH] at hc
    split at hc
    · cases hc; exact no_ok
    · obtain ⟨cx, hcx, rfl⟩ := Option.map_eq_some_iff.1 hc
      intro rd F D h k e F1 D1 h1 k1 he φ w a Fn hT hD hF hh hn
      simp only [stX] at he
      obtain ⟨l1, hA⟩ := hs.ok.ex _ _ _ _ _ _ _ _ _ _ _ he
      refine wpIn_scope (wpIn_mono (hA x gm nt _ hcx hnt φ w a Fn hT hD hF hh hn) ?_)
      rintro e' a2 w2 hp
      refine ⟨fun l => ?_, hp⟩
      rw [hp.1]
      exact exitOf_goto _ l
    · cases hc
  | rangeFunc f ps x y ihx ihy =>
    intro hint c hc
    simp only [compH] at hc
    split at hc
    · cases hc; exact no_ok
    · rename_i hx hy cf hcf
      split at hc
      · rename_i cx cy hcx hcy
        rcases cond_eq_true hc with ⟨hk, hc⟩ | ⟨_, hc⟩
        · cases hc
          exact hrf f ps x y (hx, cx) (hy, cy) cf hcf hcx hcy hk
        · cases hc
      · cases hc
    · cases hc
end
end Go.Ev
