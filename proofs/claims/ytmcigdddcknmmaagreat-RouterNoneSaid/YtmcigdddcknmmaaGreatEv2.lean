/- An evaluator whose answers are the machine's, proved once; part 2. No condition. -/
import Derived.Test.YtmcigdddcknmmaaGreatEv1
import Derived.Laws.BytesString
import Derived.Great.BuildSlice
import Derived.Laws.MakeOwn
import Derived.Laws.AppendOwn
import Derived.Lib.ConvBytes
import Derived.Laws.CopyRow
import Derived.Laws.RangeString
namespace Go.Ev
open Go

section
variable {P : Program} {dyn : List TypeId} {φ : Phi} {oc : Operand → Option CV} {ρ : Rho} {ev : Operand → Value}

theorem run_value {s : Sem Value} {v' : Value} {w : World} (h : s.run P w = .ok v' w) : (do pure (Next.value (← s)) : Sem Next).run P w = .ok (.value v') w := by
  simp [h]

theorem RhoOk.one (hr : RhoOk φ oc ρ ev) {x : Operand} {c : CV} {v : AV} (h1 : oc x = some c) (h2 : ρ c = some v) : VR φ v (ev x) := hr x c v h1 h2

theorem pu_pick (hr : RhoOk φ oc ρ ev) {c a b : Operand} {po : COp} {p : PuOp} {v : AV}
    (hc : (match oc c, oc a, oc b with | some c, some a, some b => some (COp.pu (.pk c a b)) | _, _, _ => none) = some po) (hp : po = .pu p) (hv : evPu ρ p = some v) (w : World) :
    ∃ v', (do pure (Next.value (if ← asBool (ev c) then ev a else ev b)) : Sem Next).run P w = .ok (.value v') w ∧ VR φ v v' := by
  split at hc
  · rename_i c' a' b' h1 h2 h3
    cases hc; cases hp
    simp only [evPu] at hv
    split at hv
    · rename_i h4
      have := hr.one h1 h4
      generalize ev c = vc at *
      cases this
      exact ⟨ev a, by simp [asBool], hr.one h2 hv⟩
    · rename_i h4
      have := hr.one h1 h4
      generalize ev c = vc at *
      cases this
      exact ⟨ev b, by simp [asBool], hr.one h3 hv⟩
    · cases hv
  · cases hc

/-- fields' places. -/
theorem places_run {fs : Array Field} (h : fs.toList.all (fun f => (szOf P f.type).isSome) = true) (w : World) :
    (fs.mapM fun f => (do pure (f.offset, ← sizeOf f.type) : Sem (Nat × Nat))).run P w = .ok (fs.map fun f => (f.offset, (szOf P f.type).getD 0)) w := by
  refine amapM_run _ _ w fs (fun f hf => ?_)
  have := List.all_eq_true.1 h f hf
  cases hs : szOf P f.type with
  | none => rw [hs] at this; cases this
  | some s => simp [run_size hs]

theorem strOf_self (s : ByteArray) : strOf (s.data.toList.map (·.toNat)) = s := by
  obtain ⟨⟨l⟩⟩ := s
  simp only [strOf, List.map_map]
  congr 2
  conv => rhs; rw [← List.map_id l]
  apply List.map_congr_left
  intro x _
  simp
theorem const_VR : ∀ (d : Nat) (v : Value) (z : AV), constN d v = some z → VR φ z v
  | 0, v, z, h => by cases h
  | d + 1, v, z, h => by
    have key : ∀ (l : List Value) (zs : List AV), mapO (constN d) l = some zs → VRs φ zs l := by
      intro l
      induction l with
      | nil => intro zs h; simp [mapO] at h; subst h; exact .nil
      | cons x l ih =>
        intro zs h
        simp only [mapO] at h
        cases h1 : constN d x with
        | none => rw [h1] at h; cases h
        | some y =>
          rw [h1] at h
          cases h2 : mapO (constN d) l with
          | none => rw [h2] at h; cases h
          | some r => rw [h2] at h; cases h; exact .cons (const_VR d x y h1) (ih r h2)
    unfold constN at h
    split at h
    · cases h; exact .b _
    · cases h; exact .i _ _
    · rename_i s
      cases h
      have := VR.s (φ := φ) (s.data.toList.map (·.toNat)) (by
        intro x hx
        simp only [List.mem_map] at hx
        obtain ⟨y, _, rfl⟩ := hx
        exact y.toNat_lt)
      rw [strOf_self] at this
      exact this
    · cases h; exact .pz
    · cases h; exact .sz
    · cases h; exact .mz
    · cases h; exact .fz
    · cases h; exact .iz
    · rename_i l
      simp only [Option.map_eq_some_iff] at h
      obtain ⟨zs, h1, rfl⟩ := h
      have := VR.ag zs l.toList (key _ _ h1)
      simpa using this
    · rename_i l
      simp only [Option.map_eq_some_iff] at h
      obtain ⟨zs, h1, rfl⟩ := h
      have := VR.tu zs l.toList (key _ _ h1)
      simpa using this
    · cases h
theorem zeOf_run {t : TypeId} {z : AV} (h : zeOf P t = some z) (w : World) : ∃ z', (zeroValue t).run P w = .ok z' w ∧ VR φ z z' := by
  unfold zeOf at h
  cases hi : P.info? t with
  | none => rw [hi] at h; cases h
  | some i =>
    rw [hi] at h
    simp only at h
    cases hz : i.zero with
    | none => rw [hz] at h; cases h
    | some v =>
      rw [hz] at h
      exact ⟨v, by simp [zeroValue, run_typeInfo _ hi, hz], const_VR 3 v z h⟩

theorem parts_of {place : Nat → Option (Nat × Nat)} {g : Nat × Operand → Option (Nat × Nat × CV)} (hr : RhoOk φ oc ρ ev)
    (hg : ∀ p q, g p = some q → place p.1 = some (q.1, q.2.1) ∧ oc p.2 = some q.2.2) :
    ∀ (ps : List (Nat × Operand)) (l : List (Nat × Nat × CV)) (vs : List (Nat × Nat × AV)), mapO g ps = some l → rvp ρ l = some vs → Parts φ place vs (ps.map fun p => (p.1, ev p.2))
  | [], l, vs, h1, h2 => by
    simp [mapO] at h1; subst h1
    simp [rvp, each] at h2; subst h2
    exact .nil
  | p :: ps, l, vs, h1, h2 => by
    simp only [mapO] at h1
    cases hq : g p with
    | none => rw [hq] at h1; cases h1
    | some q =>
      rw [hq] at h1
      cases hm : mapO g ps with
      | none => rw [hm] at h1; cases h1
      | some r =>
        rw [hm] at h1
        cases h1
        obtain ⟨off, sz, c⟩ := q
        change (match ρ c with | none => none | some v => match rvp ρ r with | none => none | some l => some ((off, sz, v) :: l)) = some vs at h2
        cases hv : ρ c with
        | none => rw [hv] at h2; cases h2
        | some v =>
          rw [hv] at h2
          cases hl : rvp ρ r with
          | none => rw [hl] at h2; cases h2
          | some l' =>
            rw [hl] at h2
            cases h2
            obtain ⟨h3, h4⟩ := hg p _ hq
            exact .cons h3 (hr _ _ _ h4 hv) (parts_of hr hg ps r l' hm hl)

theorem pu_build (hr : RhoOk φ oc ρ ev) {t : TypeId} {ps : Array (Nat × Operand)} {po : COp} {p : PuOp} {v : AV}
    (hc : (match zeOf P t, P.underlying t with
      | some z, some (.struct fs) => cond (fs.toList.all fun f => (szOf P f.type).isSome) ((mapO (fun (p : Nat × Operand) => match fs[p.1]? with
          | some f => (match szOf P f.type, oc p.2 with | some s, some x => some (f.offset, s, x) | _, _ => none)
          | none => none) ps.toList).map fun l => COp.pu (.bd (cells z) l)) none
      | some z, some (.array _ e) => (match szOf P e with
          | some s => (mapO (fun (p : Nat × Operand) => match oc p.2 with | some x => some (p.1 * s, s, x) | none => none) ps.toList).map fun l => COp.pu (.bd (cells z) l)
          | none => none)
      | _, _ => none) = some po) (hp : po = .pu p) (hv : evPu ρ p = some v) (w : World) :
    ∃ v', (Instr.build t (ps.map fun (i, x) => (i, ev x))).run P w = .ok v' w ∧ VR φ v v' := by
  have fin : ∀ {place : Nat → Option (Nat × Nat)} {z : AV} {z' : Value} {l : List (Nat × Nat × CV)} , VR φ z z' → p = .bd (cells z) l → (∀ vs, rvp ρ l = some vs → Parts φ place vs (ps.toList.map fun p => (p.1, ev p.2))) →
      ∃ arr, Instr.fill place z'.cells (ps.toList.map fun p => (p.1, ev p.2)) = some arr ∧ VR φ v (.agg arr) := by
    intro place z z' l hz hpe hps
    subst hpe
    simp only [evPu] at hv
    cases hv1 : rvp ρ l with
    | none => rw [hv1] at hv; cases hv
    | some vs =>
      rw [hv1] at hv
      simp only at hv
      cases hf : fil vs (cells z) with
      | none => rw [hf] at hv; cases hv
      | some c =>
        rw [hf] at hv
        cases hv
        obtain ⟨arr, h1, h2⟩ := fil_run (hps vs hv1) hf hz.cells
        exact ⟨arr, h1, by have := VR.ag c arr.toList h2; simpa using this⟩
  have hmap : (ps.map fun (x : Nat × Operand) => (x.1, ev x.2)).toList = ps.toList.map fun p => (p.1, ev p.2) := by simp
  cases hz : zeOf P t with
  | none => rw [hz] at hc; cases hc
  | some z =>
    obtain ⟨z', hz1, hz2⟩ := zeOf_run (φ := φ) hz w
    rw [hz] at hc
    cases hu : P.underlying t with
    | none => rw [hu] at hc; cases hc
    | some d =>
      rw [hu] at hc
      cases d with
      | struct fs =>
        simp only at hc
        rcases cond_eq_true hc with ⟨ha, hc⟩ | ⟨_, hc⟩
        · simp only [Option.map_eq_some_iff] at hc
          obtain ⟨l, hl, rfl⟩ := hc
          cases hp
          obtain ⟨arr, h1, h2⟩ := fin (place := ((fs.map fun f => (f.offset, (szOf P f.type).getD 0))[·]?)) (z' := z') hz2 rfl (fun vs hvs => parts_of hr (fun p q hq => by
            cases hf : fs[p.1]? with
            | none => rw [hf] at hq; cases hq
            | some f =>
              rw [hf] at hq
              simp only at hq
              cases hs : szOf P f.type with
              | none => rw [hs] at hq; simp at hq
              | some s =>
                cases ho : oc p.2 with
                | none => rw [hs, ho] at hq; simp at hq
                | some x => rw [hs, ho] at hq; cases hq; simp [hf, hs]) _ _ _ hl hvs)
          refine ⟨.agg arr, ?_, h2⟩
          simp only [Instr.build, Sem.run_bind, hz1, Result.andThen_ok, run_underlying hu]
          rw [places_run ha w]
          simp only [Result.andThen_ok, hmap, h1]
          rfl
        · cases hc
      | array n e =>
        simp only at hc
        cases hs : szOf P e with
        | none => rw [hs] at hc; cases hc
        | some s =>
          rw [hs] at hc
          simp only [Option.map_eq_some_iff] at hc
          obtain ⟨l, hl, rfl⟩ := hc
          cases hp
          obtain ⟨arr, h1, h2⟩ := fin (place := fun i => some (i * s, s)) (z' := z') hz2 rfl (fun vs hvs => parts_of hr (fun p q hq => by
            cases ho : oc p.2 with
            | none => rw [ho] at hq; cases hq
            | some x => rw [ho] at hq; cases hq; exact ⟨rfl, rfl⟩) _ _ _ hl hvs)
          refine ⟨.agg arr, ?_, h2⟩
          simp only [Instr.build, Sem.run_bind, hz1, Result.andThen_ok, run_underlying hu, run_size hs, hmap, h1]
          rfl
      | _ => cases hc
end
end Go.Ev
namespace Go.Ev
open Go

section
variable {P : Program} {dyn : List TypeId} {φ : Phi} {oc : Operand → Option CV} {ρ : Rho} {ev : Operand → Value}

theorem RhoOk.bnd (hr : RhoOk φ oc ρ ev) {o : Option Operand} {c : Option CV} {n : Option Nat} (h1 : oco oc o = some c) (h2 : rvn ρ c = some n) : BndOk (o.map ev) n := by
  rcases hr.bound h1 h2 with ⟨rfl, rfl⟩ | ⟨x, k, m, rfl, rfl, he⟩
  · exact .inl ⟨rfl, rfl⟩
  · exact .inr ⟨k, m, by simp [he], rfl⟩

theorem run_indexAt_slice {t e : TypeId} {esz j : Nat} {x : AV} {x' : Value} {v : AV} (hu : P.underlying t = some (.slice e)) (hs : szOf P e = some esz) (hx : VR φ x x') {k : IntKind}
    (h : (match (generalizing := false) x with
        | .sl n o l _ | .su n o l _ => cond (Nat.blt j l) (some (AV.p n (o + j * esz))) none
        | _ => none) = some v) (w : World) : ∃ v', (Instr.indexAt t x' (.int k (j : Int))).run P w = .ok v' w ∧ VR φ v v' := by
  have key : ∀ {n : Pos} {o l c : Nat} {L : Loc}, φ n = some L → cond (Nat.blt j l) (some (AV.p n (o + j * esz))) none = some v →
      ∃ v', (Instr.indexAt t (.slice (some ⟨L.b, L.base + o, none⟩) l c) (.int k (j : Int))).run P w = .ok v' w ∧ VR φ v v' := by
    intro n o l c L hL h
    rcases cond_eq_true h with ⟨h1, h2⟩ | ⟨_, h2⟩
    · cases h2
      rw [blt_iff] at h1
      have hjl : j < l := by simpa using h1
      refine ⟨.pointer (some ⟨L.b, L.base + (o + j * esz), none⟩), ?_, .p _ _ _ hL⟩
      simp [Instr.indexAt, asIntOf, run_underlying hu, hjl, run_size hs, add_plain, Nat.add_assoc]
    · cases h2
  cases hx with
  | sl n off l c L hL => exact key hL h
  | su n off l e L c hL hc hl he => exact key hL h
  | _ => simp at h
theorem run_indexAt_array {t e : TypeId} {n esz j o : Nat} {nm : Pos} {x' : Value} {v : AV} (hu : P.underlying t = some (.array n e)) (hs : szOf P e = some esz) (hx : VR φ (.p nm o) x') {k : IntKind}
    (h : cond (Nat.blt j n) (some (AV.p nm (o + j * esz))) none = some v) (w : World) : ∃ v', (Instr.indexAt t x' (.int k (j : Int))).run P w = .ok v' w ∧ VR φ v v' := by
  cases hx with
  | p _ _ L hL =>
    rcases cond_eq_true h with ⟨h1, h2⟩ | ⟨_, h2⟩
    · cases h2
      rw [blt_iff] at h1
      have hjl : j < n := by simpa using h1
      refine ⟨.pointer (some ⟨L.b, L.base + (o + j * esz), none⟩), ?_, .p _ _ _ hL⟩
      simp [Instr.indexAt, asIntOf, run_underlying hu, Instr.sureAddr, hjl, run_size hs, add_plain, Nat.add_assoc]
    · cases h2
theorem run_index_array {t e : TypeId} {n esz j : Nat} {g : Bool} {l : List AV} {x' : Value} {v : AV} (hu : P.underlying t = some (.array n e)) (hs : szOf P e = some esz) (hg : agOf P e = some g) (hx : VR φ (.ag l) x') {k : IntKind}
    (h : cond (Nat.blt j n) (Ev.part g (j * esz) esz l) none = some v) (w : World) : ∃ v', (Instr.index t x' (.int k (j : Int))).run P w = .ok v' w ∧ VR φ v v' := by
  cases hx with
  | ag _ vs hvs =>
    rcases cond_eq_true h with ⟨h1, h2⟩ | ⟨_, h2⟩
    · rw [blt_iff] at h1
      have hjl : j < n := by simpa using h1
      obtain ⟨v', e1, e2⟩ := part_run (P := P) (w := w) hg hs hvs h2
      exact ⟨v', by simp [Instr.index, asIntOf, run_underlying hu, hjl, run_size hs, e1], e2⟩
    · cases h2
theorem run_index_string {t : TypeId} {j b : Nat} {l : List Nat} {x' : Value} (hu : P.underlying t = some .string) (hx : VR φ (.s l) x') {k : IntKind} (h : nth j l = some b) (w : World) :
    (Instr.index t x' (.int k (j : Int))).run P w = .ok (.int .u8 (b : Int)) w := by
  cases hx with
  | s _ hb =>
    rw [nth_eq] at h
    have hlt : b < 256 := hb b (List.mem_of_getElem? h)
    have hget : (strOf l)[j]? = some (UInt8.ofNat b) := by
      have hj : j < l.length := (List.getElem?_eq_some_iff.1 h).1
      have hs : j < (strOf l).size := by rw [strOf_size]; exact hj
      rw [getElem?_pos (strOf l) j hs]
      congr 1
      have : (strOf l)[j] = ((l.map UInt8.ofNat))[j]'(by simpa using hj) := rfl
      rw [this, List.getElem_map]
      congr 1
      exact (List.getElem?_eq_some_iff.1 h).2
    simp [Instr.index, asIntOf, run_underlying hu, hget]
    omega

theorem run_string_slice {t : TypeId} {l : List Nat} {a b m : Nat} {x' : Value} {lo hi : Option Nat} {lo' hi' : Option Value} (hu : P.underlying t = some .string) (hx : VR φ (.s l) x') (hb : bnds (len l) (len l) lo hi none = some (a, b, m))
    (h1 : BndOk lo' lo) (h2 : BndOk hi' hi) (w : World) : ∃ v', (Instr.slice t x' lo' hi' none).run P w = .ok v' w ∧ VR φ (.s (tak (b - a) (drp a l))) v' := by
  cases hx with
  | s _ hl =>
    rw [len_eq] at hb
    have hr := (run_bounds_le (P := P) (w := w) hb (Nat.le_refl _) h1 h2 false).1
    refine ⟨.string (strOf ((l.drop a).take (b - a))), ?_, ?_⟩
    · have hsz : (strOf l).size = l.length := strOf_size l
      simp only [Instr.slice, Sem.run_bind, run_underlying hu, Result.andThen_ok]
      simp only [Option.isSome_none, Bool.false_eq_true, if_false, Sem.run_bind, hsz, hr, Result.andThen_ok, Sem.run_pure]
      congr 2
      apply ByteArray.ext
      apply Array.ext'
      simp [strOf, ByteArray.data_extract]
    · rw [tak_eq, drp_eq]
      exact .s _ (fun x hx => hl x (List.mem_of_mem_drop (List.mem_of_mem_take hx)))

theorem run_minmax {mx : Bool} : ∀ {x : AV} {l : List AV} {v : AV} {x' : Value} {vs : List Value} (w : World), minmax mx x l = some v → VR φ x x' → VRs φ l vs →
    ∃ v', (vs.foldlM (cond mx Builtin.max2 Builtin.min2) x').run P w = .ok v' w ∧ VR φ v v' := by
  intro x l
  induction l generalizing x with
  | nil =>
    intro v x' vs w h hx hl
    cases hl
    cases h
    exact ⟨x', rfl, hx⟩
  | cons y l ih =>
    intro v x' vs w h hx hl
    cases hl with
    | cons hy ht =>
      change (match (generalizing := false) x, y with
        | .i k a, .i _ b => minmax mx (.i k (cond (cond mx (ltI a b) (ltI b a)) b a)) l
        | _, _ => none) = some v at h
      cases x <;> cases y <;> simp only [reduceCtorEq] at h
      rename_i k a k' b
      cases hx; cases hy
      rw [ltI_eq, ltI_eq] at h
      obtain ⟨v', h1, h2⟩ := ih w h (.i _ _) ht
      refine ⟨v', ?_, h2⟩
      rw [List.foldlM_cons]
      cases mx with
      | true =>
        simp only [cond_true] at h1 ⊢
        have : (Builtin.max2 (.int k a) (.int k' b)).run P w = .ok (.int k (cond (decide (a < b)) b a)) w := by
          simp only [Builtin.max2]
          by_cases hab : a < b
          · simp [hab]
          · simp [hab]
        simp [this, h1]
      | false =>
        simp only [cond_false] at h1 ⊢
        have : (Builtin.min2 (.int k a) (.int k' b)).run P w = .ok (.int k (cond (decide (b < a)) b a)) w := by
          simp only [Builtin.min2]
          by_cases hab : b < a <;> simp [hab]
        simp [this, h1]

theorem eqBy_words {op : BinOp} {t : TypeId} {x y : Operand} {T : EqT} {u u2 : AV} {x' y' : Value} {r : Bool} (h : eqBy T u u2 = some r) (hx : VR φ u x') (hy : VR φ u2 y') (hT : EqTOk P t T) (hop : op = .eql ∨ op = .neq)
    (hn : T = .fc → (isNil x || isNil y) = true) (hs : ∀ e, T = .sh e → P.eqGuardType P.depth t = false ∧ ((∃ fs, P.underlying t = some (.struct fs)) ∨ ∃ n e, P.underlying t = some (.array n e))) (w : World) :
    (eqGuard op t x y x' y').run P w = .ok () w ∧ binOp op t x' y' = (if op = .eql then (do pure (.bool (← Op.equal t x' y'))) else (do pure (.bool (!(← Op.equal t x' y'))))) := by
  cases T with
  | sh e =>
    obtain ⟨hg, hu⟩ := hs e rfl
    have he : ER P e t := hT
    have h' : eqSh (11 + 1) e u u2 = some r := by simpa [eqBy] using h
    have hst : ∃ l, e = .st l := by
      cases he with
      | st fs l ht _ _ => exact ⟨_, rfl⟩
      | ar n el s a x1 ht _ _ _ => exact ⟨_, rfl⟩
      | lb ht => rcases hu with ⟨fs, hu⟩ | ⟨n, e, hu⟩ <;> rw [hu] at ht <;> cases ht
      | li k ht => rcases hu with ⟨fs, hu⟩ | ⟨n, e, hu⟩ <;> rw [hu] at ht <;> cases ht
      | ls ht => rcases hu with ⟨fs, hu⟩ | ⟨n, e, hu⟩ <;> rw [hu] at ht <;> cases ht
    obtain ⟨l, rfl⟩ := hst
    rw [eqSh_succ] at h'
    cases u <;> cases u2 <;> simp only [reduceCtorEq] at h'
    cases hx; cases hy
    exact ⟨run_eqGuard_agg w op t x y _ _ hg, by rcases hop with rfl | rfl <;> rfl⟩
  | fc =>
    cases hx <;> simp only [eqBy, reduceCtorEq] at h <;> cases hy <;> simp only [reduceCtorEq] at h
    · exact ⟨eqGuard_plain op t x y (by simp) (by simp), by rcases hop with rfl | rfl <;> rfl⟩
    · exact ⟨eqGuard_plain op t x y (by simp) (by simp), by rcases hop with rfl | rfl <;> rfl⟩
    · exact ⟨eqGuard_nil op t x y (hn rfl), by rcases hop with rfl | rfl <;> rfl⟩
  | bo =>
    cases hx <;> simp only [eqBy, reduceCtorEq] at h <;> cases hy <;> simp only [reduceCtorEq] at h
    all_goals exact ⟨eqGuard_plain op t x y (by simp) (by simp), by rcases hop with rfl | rfl <;> rfl⟩
  | pn =>
    cases hx <;> simp only [eqBy, reduceCtorEq] at h <;> cases hy <;> simp only [reduceCtorEq] at h
    all_goals exact ⟨eqGuard_plain op t x y (by simp) (by simp), by rcases hop with rfl | rfl <;> rfl⟩
  | sl =>
    cases hx <;> simp only [eqBy, reduceCtorEq] at h <;> cases hy <;> simp only [reduceCtorEq] at h
    all_goals exact ⟨eqGuard_plain op t x y (by simp) (by simp), by rcases hop with rfl | rfl <;> rfl⟩
  | mp =>
    cases hx <;> simp only [eqBy, reduceCtorEq] at h <;> cases hy <;> simp only [reduceCtorEq] at h
    all_goals exact ⟨eqGuard_plain op t x y (by simp) (by simp), by rcases hop with rfl | rfl <;> rfl⟩
  | fu =>
    cases hx <;> simp only [eqBy, reduceCtorEq] at h <;> cases hy <;> simp only [reduceCtorEq] at h
    all_goals exact ⟨eqGuard_plain op t x y (by simp) (by simp), by rcases hop with rfl | rfl <;> rfl⟩

theorem pu_binOp (hr : RhoOk φ oc ρ ev) {op : BinOp} {t : TypeId} {x y : Operand} {po : COp} {p : PuOp} {v : AV}
    (hc : (match oc x, oc y with
    | some a, some b => (match op with
      | .eql | .neq =>
        let ng := (match op with | .neq => true | _ => false)
        (match P.underlying t with
        | some (.int _) | some .string => some (COp.pu (.bi op a b))
        | some .bool => some (.pu (.eq ng .bo a b))
        | some (.pointer e) => cond (isNil x || isNil y) (some (.pu (.eq ng .pn a b))) (match szOf P e with | some s => cond (Nat.beq s 0) none (some (.rd (.pe ng a b))) | none => none)
        | some (.slice _) => some (.pu (.eq ng .sl a b))
        | some (.map _ _) => some (.pu (.eq ng .mp a b))
        | some (.func _ _ _) => some (.pu (.eq ng .fu a b))
        | some (.interface _) => cond (isNil x || isNil y) (some (.pu (.eq ng .fc a b))) none
        | some (.struct _) | some (.array _ _) => cond (P.eqGuardType P.depth t) none (match eshOf P 12 t with | some e => some (.pu (.eq ng (.sh e) a b)) | none => none)
        | _ => none)
      | _ => some (.pu (.bi op a b)))
    | _, _ => none) = some po) (hp : po = .pu p) (hv : evPu ρ p = some v) (w : World) :
    ∃ v', (do eqGuard op t x y (ev x) (ev y); binOp op t (ev x) (ev y) : Sem Value).run P w = .ok v' w ∧ VR φ v v' := by
  cases hx : oc x with
  | none => rw [hx] at hc; cases hc
  | some a =>
    cases hy : oc y with
    | none => rw [hx, hy] at hc; cases hc
    | some b =>
      rw [hx, hy] at hc
      simp only at hc
      -- the two ways
      have bi : p = .bi op a b → ∃ v', (do eqGuard op t x y (ev x) (ev y); binOp op t (ev x) (ev y) : Sem Value).run P w = .ok v' w ∧ VR φ v v' := by
        intro hpe
        subst hpe
        simp only [evPu] at hv
        cases h1 : ρ a with
        | none => rw [h1] at hv; cases hv
        | some u =>
          cases h2 : ρ b with
          | none => rw [h1, h2] at hv; cases hv
          | some u2 =>
            rw [h1, h2] at hv
            obtain ⟨g, v', e1, e2⟩ := binop_run (P := P) (w := w) (t := t) (hr.one hx h1) (hr.one hy h2) hv
            exact ⟨v', by simp [g x y, e1], e2⟩
      have eq : ∀ (ng : Bool) (T : EqT), (op = .eql ∧ ng = false ∨ op = .neq ∧ ng = true) → p = .eq ng T a b → EqTOk P t T → (T = .fc → (isNil x || isNil y) = true) →
          (∀ e, T = .sh e → P.eqGuardType P.depth t = false ∧ ((∃ fs, P.underlying t = some (.struct fs)) ∨ ∃ n e, P.underlying t = some (.array n e))) →
          ∃ v', (do eqGuard op t x y (ev x) (ev y); binOp op t (ev x) (ev y) : Sem Value).run P w = .ok v' w ∧ VR φ v v' := by
        intro ng T hop hpe hT hn hs
        subst hpe
        simp only [evPu] at hv
        cases h1 : ρ a with
        | none => rw [h1] at hv; cases hv
        | some u =>
          cases h2 : ρ b with
          | none => rw [h1, h2] at hv; cases hv
          | some u2 =>
            rw [h1, h2] at hv
            simp only at hv
            cases h3 : eqBy T u u2 with
            | none => rw [h3] at hv; cases hv
            | some r =>
              rw [h3] at hv
              cases hv
              obtain ⟨g, hb⟩ := eqBy_words (x := x) (y := y) h3 (hr.one hx h1) (hr.one hy h2) hT (op := op) (by rcases hop with ⟨h, _⟩ | ⟨h, _⟩; exact .inl h; exact .inr h) hn hs w
              have he := eqBy_run (P := P) (w := w) (t := t) (hr.one hx h1) (hr.one hy h2) h3 hT
              rw [hb]
              rcases hop with ⟨rfl, rfl⟩ | ⟨rfl, rfl⟩
              · exact ⟨.bool r, by simp [g, he], by simpa using VR.b r⟩
              · exact ⟨.bool (!r), by simp [g, he], by simpa using VR.b (!r)⟩
      have both : ∀ (ng : Bool), (op = .eql ∧ ng = false ∨ op = .neq ∧ ng = true) → (match P.underlying t with
        | some (.int _) | some .string => some (COp.pu (.bi op a b))
        | some .bool => some (.pu (.eq ng .bo a b))
        | some (.pointer e) => cond (isNil x || isNil y) (some (.pu (.eq ng .pn a b))) (match szOf P e with | some s => cond (Nat.beq s 0) none (some (.rd (.pe ng a b))) | none => none)
        | some (.slice _) => some (.pu (.eq ng .sl a b))
        | some (.map _ _) => some (.pu (.eq ng .mp a b))
        | some (.func _ _ _) => some (.pu (.eq ng .fu a b))
        | some (.interface _) => cond (isNil x || isNil y) (some (.pu (.eq ng .fc a b))) none
        | some (.struct _) | some (.array _ _) => cond (P.eqGuardType P.depth t) none (match eshOf P 12 t with | some e => some (.pu (.eq ng (.sh e) a b)) | none => none)
        | _ => none) = some po → ∃ v', (do eqGuard op t x y (ev x) (ev y); binOp op t (ev x) (ev y) : Sem Value).run P w = .ok v' w ∧ VR φ v v' := by
        intro ng hop hc
        cases hu : P.underlying t with
        | none => rw [hu] at hc; cases hc
        | some d =>
          rw [hu] at hc
          cases d with
          | int k => cases hc; cases hp; exact bi rfl
          | string => cases hc; cases hp; exact bi rfl
          | bool => cases hc; cases hp; exact eq ng .bo hop rfl hu (by simp) (by simp)
          | pointer e =>
            rcases cond_eq_true hc with ⟨_, hc⟩ | ⟨_, hc⟩
            · cases hc; cases hp; exact eq ng .pn hop rfl ⟨_, hu⟩ (by simp) (by simp)
            · split at hc
              · rcases cond_eq_true hc with ⟨_, hc⟩ | ⟨_, hc⟩ <;> cases hc
                cases hp
              · cases hc
          | slice e => cases hc; cases hp; exact eq ng .sl hop rfl ⟨_, hu⟩ (by simp) (by simp)
          | map k e => cases hc; cases hp; exact eq ng .mp hop rfl ⟨_, _, hu⟩ (by simp) (by simp)
          | func a b c => cases hc; cases hp; exact eq ng .fu hop rfl ⟨_, _, _, hu⟩ (by simp) (by simp)
          | interface m =>
            rcases cond_eq_true hc with ⟨hn, hc⟩ | ⟨_, hc⟩
            · cases hc; cases hp; exact eq ng .fc hop rfl ⟨_, hu⟩ (fun _ => hn) (by simp)
            · cases hc
          | struct fs =>
            rcases cond_eq_true hc with ⟨_, hc⟩ | ⟨hg, hc⟩
            · cases hc
            · cases he : eshOf P 12 t with
              | none => rw [he] at hc; cases hc
              | some e => rw [he] at hc; cases hc; cases hp; exact eq ng (.sh e) hop rfl (eshOf_ER 12 t e he) (by simp) (fun _ _ => ⟨hg, .inl ⟨_, hu⟩⟩)
          | array n el =>
            rcases cond_eq_true hc with ⟨_, hc⟩ | ⟨hg, hc⟩
            · cases hc
            · cases he : eshOf P 12 t with
              | none => rw [he] at hc; cases hc
              | some e => rw [he] at hc; cases hc; cases hp; exact eq ng (.sh e) hop rfl (eshOf_ER 12 t e he) (by simp) (fun _ _ => ⟨hg, .inr ⟨_, _, hu⟩⟩)
          | _ => cases hc
      cases op
      case eql => exact both false (.inl ⟨rfl, rfl⟩) hc
      case neq => exact both true (.inr ⟨rfl, rfl⟩) hc
      all_goals (cases hc; cases hp; exact bi rfl)
end
end Go.Ev
namespace Go.Ev
open Go

section
variable {P : Program} {dyn : List TypeId} {φ : Phi} {oc : Operand → Option CV} {ρ : Rho} {ev : Operand → Value}

theorem some_pu {α : Type} {o : Option α} {f : α → COp} {p : PuOp} (h : o.map f = some (.pu p)) : ∃ a, o = some a ∧ f a = .pu p := by
  simpa [Option.map_eq_some_iff] using h

theorem VR.inv_i {φ : Phi} {k : IntKind} {n : Int} {v : Value} (h : VR φ (.i k n) v) : v = .int k n := by cases h; rfl
theorem VR.inv_b {φ : Phi} {x : Bool} {v : Value} (h : VR φ (.b x) v) : v = .bool x := by cases h; rfl
theorem VR.inv_s {φ : Phi} {l : List Nat} {v : Value} (h : VR φ (.s l) v) : v = .string (strOf l) ∧ ∀ x ∈ l, x < 256 := by cases h; exact ⟨rfl, by assumption⟩
theorem VR.inv_p {φ : Phi} {n : Pos} {o : Nat} {v : Value} (h : VR φ (.p n o) v) : ∃ L, φ n = some L ∧ v = .pointer (some ⟨L.b, L.base + o, none⟩) := by cases h; exact ⟨_, by assumption, rfl⟩
theorem VR.inv_m {φ : Phi} {n : Pos} {v : Value} (h : VR φ (.m n) v) : ∃ L, φ n = some L ∧ v = .map (some L.b) := by cases h; exact ⟨_, by assumption, rfl⟩
theorem VR.inv_tu {φ : Phi} {l : List AV} {v : Value} (h : VR φ (.tu l) v) : ∃ vs, VRs φ l vs ∧ v = .tuple ⟨vs⟩ := by cases h; exact ⟨_, by assumption, rfl⟩
theorem VR.inv_ag {φ : Phi} {l : List AV} {v : Value} (h : VR φ (.ag l) v) : ∃ vs, VRs φ l vs ∧ v = .agg ⟨vs⟩ := by cases h; exact ⟨_, by assumption, rfl⟩
theorem VR.inv_ic {φ : Phi} {t : Nat} {x : AV} {v : Value} (h : VR φ (.ic t x) v) : ∃ y, VR φ x y ∧ v = .iface t y := by cases h; exact ⟨_, by assumption, rfl⟩
theorem arr_map {α β : Type} (a : Array α) (f : α → β) : a.map f = ⟨a.toList.map f⟩ := by apply Array.ext'; simp

theorem run_lenOf {ty : TypeId} {tys : Array TypeId} {x' : Value} {u : AV} {n : Nat} (hx : VR φ u x') (h : vlen u = some n) (ht : tys.toList.map P.underlying = [some .string] ∧ (∃ l, u = .s l) ∨ ∃ e, tys.toList.map P.underlying = [some (.slice e)] ∧ ¬ ∃ l, u = .s l) (w : World) :
    (Builtin.len_ tys ty #[x']).run P w = .ok (.int .i64 (n : Int)) w := by
  have one : ∀ {d : TypeDesc}, tys.toList.map P.underlying = [some d] → ∃ t, tys = #[t] ∧ P.underlying t = some d := by
    intro d h
    obtain ⟨l⟩ := tys
    cases l with
    | nil => simp at h
    | cons t l =>
      cases l with
      | nil => simp at h; exact ⟨t, rfl, h⟩
      | cons _ _ => simp at h
  rcases ht with ⟨ht, l, rfl⟩ | ⟨e, ht, hs⟩
  · obtain ⟨t, rfl, hu⟩ := one ht
    obtain ⟨rfl, _⟩ := hx.inv_s
    simp only [vlen, Option.some.injEq, len_eq] at h
    subst h
    simp [Builtin.len_, run_underlying hu, strOf_size, goInt]
  · obtain ⟨t, rfl, hu⟩ := one ht
    cases hx with
    | sl _ _ l c L hL => cases h; simp [Builtin.len_, run_underlying hu, goInt]
    | su _ _ l c L hL => cases h; simp [Builtin.len_, run_underlying hu, goInt]
    | se => cases h; simp [Builtin.len_, run_underlying hu, goInt]
    | sz => cases h; simp [Builtin.len_, run_underlying hu, goInt]
    | s => exact absurd ⟨_, rfl⟩ hs
    | _ => cases h

theorem pu_call (hr : RhoOk φ oc ρ ev) {c : Call} {ty : TypeId} {p : PuOp} {v : AV} (hc : compCall P dyn oc c = some (.pu p)) (hv : evPu ρ p = some v) (w : World) :
    ∃ v', (do let d ← resolve ev c ty; invoke d.target d.args : Sem Next).run P w = .ok (.value v') w ∧ VR φ v v' := by
  obtain ⟨callee, args, tys⟩ := c
  cases callee with
  | value f => simp only [compCall] at hc; split at hc <;> cases hc
  | invoke r n => simp only [compCall] at hc; split at hc <;> cases hc
  | builtin b =>
    simp only [compCall] at hc
    have one : ∀ {x : CV}, mapO oc args.toList = some [x] → ∃ o, args = #[o] ∧ oc o = some x := by
      intro x h
      obtain ⟨l⟩ := args
      cases l with
      | nil => simp [mapO] at h
      | cons o l =>
        simp only [mapO] at h
        cases h1 : oc o with
        | none => rw [h1] at h; cases h
        | some c =>
          rw [h1] at h
          cases l with
          | nil => simp [mapO] at h; subst h; exact ⟨o, rfl, h1⟩
          | cons o2 l =>
            simp only [mapO] at h
            cases h2 : oc o2 with
            | none => rw [h2] at h; cases h
            | some c2 =>
              rw [h2] at h
              cases h3 : mapO oc l with
              | none => rw [h3] at h; cases h
              | some r => rw [h3] at h; cases h
    have cons : ∀ {x : CV} {l : List CV}, mapO oc args.toList = some (x :: l) → ∃ o os, args.toList = o :: os ∧ oc o = some x ∧ mapO oc os = some l := by
      intro x l h
      cases ha : args.toList with
      | nil => rw [ha] at h; simp [mapO] at h
      | cons o os =>
        rw [ha] at h
        simp only [mapO] at h
        cases h1 : oc o with
        | none => rw [h1] at h; cases h
        | some c =>
          rw [h1] at h
          cases h2 : mapO oc os with
          | none => rw [h2] at h; cases h
          | some r => rw [h2] at h; cases h; exact ⟨o, os, rfl, h1, h2⟩
    have lenc : ∀ {x : CV} (isS : Bool), mapO oc args.toList = some [x] → b = .len → p = .ln isS x → (if isS then tys.toList.map P.underlying = [some .string] else ∃ e, tys.toList.map P.underlying = [some (.slice e)]) →
        ∃ v', (do let d ← resolve ev ⟨.builtin b, args, tys⟩ ty; invoke d.target d.args : Sem Next).run P w = .ok (.value v') w ∧ VR φ v v' := by
      intro x isS hm hb hp ht
      subst hb; subst hp
      obtain ⟨o, rfl, ho⟩ := one hm
      simp only [evPu] at hv
      cases h3 : ρ x with
      | none => rw [h3] at hv; cases hv
      | some u =>
        rw [h3] at hv
        simp only at hv
        have hx := hr.one ho h3
        have fin : ∀ {n : Nat}, vlen u = some n → v = .i .i64 (.ofNat n) → (isS = true → ∃ l, u = .s l) → (isS = false → ¬ ∃ l, u = .s l) → ∃ v', (do let d ← resolve ev ⟨.builtin .len, #[o], tys⟩ ty; invoke d.target d.args : Sem Next).run P w = .ok (.value v') w ∧ VR φ v v' := by
          intro n hn he h1 h2
          subst he
          refine ⟨.int .i64 (n : Int), ?_, .i _ _⟩
          have := run_lenOf (P := P) (ty := ty) (tys := tys) hx hn (by
            cases isS with
            | true => exact .inl ⟨by simpa using ht, h1 rfl⟩
            | false => obtain ⟨e, he⟩ : ∃ e, tys.toList.map P.underlying = [some (.slice e)] := by simpa using ht
                       exact .inr ⟨e, he, h2 rfl⟩) w
          simp [resolve, invoke, Go.builtin, this]
        cases isS with
        | true =>
          cases u <;> simp only [reduceCtorEq] at hv
          rename_i l
          cases hv
          exact fin (n := len l) rfl rfl (fun _ => ⟨_, rfl⟩) (by simp)
        | false =>
          cases u <;> simp only [reduceCtorEq] at hv
          all_goals (cases hv; exact fin rfl rfl (by simp) (by simp))
    split at hc
    case h_1 => rename_i h1 h2; cases hc; exact lenc true h2 rfl rfl (by simpa using h1)
    case h_2 => rename_i e _ h1 h2; cases hc; exact lenc false h2 rfl rfl (by rw [if_neg (by simp)]; exact ⟨e, h1⟩)
    all_goals first
      | (cases hc; done)
      | (split at hc <;> first | (cases hc; done) | (rcases cond_eq_true hc with ⟨_, hc⟩ | ⟨_, hc⟩ <;> cases hc; done))
      | skip
    case h_4 =>
      rename_i e x h1 h2
      cases hc
      obtain ⟨o, rfl, ho⟩ := one h2
      obtain ⟨t, rfl, hu⟩ : ∃ t, tys = #[t] ∧ P.underlying t = some (.slice e) := by
        obtain ⟨l⟩ := tys
        cases l with
        | nil => simp at h1
        | cons t l =>
          cases l with
          | nil => simp at h1; exact ⟨t, rfl, h1⟩
          | cons _ _ => simp at h1
      simp only [evPu] at hv
      cases h3 : ρ x with
      | none => rw [h3] at hv; cases hv
      | some u =>
        rw [h3] at hv
        have hx := hr.one ho h3
        generalize hvx : ev o = vx at hx
        cases hx <;> simp only [reduceCtorEq, Option.some.injEq] at hv <;> subst hv
        · exact ⟨_, by simp [resolve, invoke, Go.builtin, Builtin.cap_, run_underlying hu, hvx, goInt], .i _ _⟩
        · exact ⟨.int .i64 0, by simp [resolve, invoke, Go.builtin, Builtin.cap_, run_underlying hu, hvx, goInt], .i _ _⟩
    all_goals
      rename_i x l h2
      cases hc
      obtain ⟨o, os, ha, ho, hos⟩ := cons h2
      simp only [evPu] at hv
      cases h3 : ρ x with
      | none => rw [h3] at hv; cases hv
      | some u =>
        rw [h3] at hv
        cases h4 : rvs ρ l with
        | none => rw [h4] at hv; cases hv
        | some us =>
          rw [h4] at hv
          obtain ⟨v', e1, e2⟩ := run_minmax (P := P) w hv (hr.one ho h3) (hr.all hos h4)
          refine ⟨v', ?_, e2⟩
          have hargs : args = ⟨o :: os⟩ := by apply Array.ext'; exact ha
          subst hargs
          simp only [cond_true, cond_false] at e1
          simp [resolve, invoke, Go.builtin, Builtin.max_, Builtin.min_, e1]

theorem pu_run (hr : RhoOk φ oc ρ ev) {o : Oper} {p : PuOp} {v : AV} (hc : compOper P dyn oc o = some (.pu p)) (hv : evPu ρ p = some v) (w : World) :
    ∃ v', (execOp ev o).run P w = .ok (.value v') w ∧ VR φ v v' := by
  obtain ⟨dst, op, ty, ps, aft, g⟩ := o
  cases op with
  | move x =>
    obtain ⟨c, h1, h2⟩ := some_pu hc; cases h2
    exact ⟨ev x, rfl, hr.one h1 hv⟩
  | assign x =>
    obtain ⟨c, h1, h2⟩ := some_pu hc; cases h2
    exact ⟨ev x, rfl, hr.one h1 hv⟩
  | pick c a b => exact pu_pick hr hc rfl hv w
  | alloc t =>
    simp only [compOper] at hc
    split at hc
    · rcases cond_eq_true hc with ⟨_, hc⟩ | ⟨_, hc⟩ <;> cases hc
    · cases hc
  | box t x => obtain ⟨c, h1, h2⟩ := some_pu hc; cases h2
  | build t ps =>
    obtain ⟨v', h1, h2⟩ := pu_build hr hc rfl hv w
    exact ⟨v', run_value h1, h2⟩
  | buildSlice t n ps =>
    simp only [compOper] at hc
    split at hc
    · split at hc
      · rcases cond_eq_true hc with ⟨_, hc⟩ | ⟨_, hc⟩ <;> cases hc
      · cases hc
    · cases hc
  | load t a => simp only [compOper] at hc; split at hc <;> cases hc
  | store t a x => simp only [compOper] at hc; split at hc <;> cases hc
  | nilCheck x =>
    obtain ⟨c, h1, h2⟩ := some_pu hc; cases h2
    simp only [evPu] at hv
    cases h3 : ρ c with
    | none => rw [h3] at hv; cases hv
    | some u =>
      rw [h3] at hv
      have hx := hr.one h1 h3
      refine ⟨ev x, ?_, ?_⟩
      · simp only [execOp]
        generalize ev x = vx at hx
        cases hx <;> first | (cases hv; done) | rfl
      · generalize ev x = vx at hx
        cases u <;> simp at hv <;> subst hv <;> exact hx
  | binOp op t x y yt =>
    obtain ⟨v', h1, h2⟩ := pu_binOp hr hc rfl hv w
    exact ⟨v', by simp only [execOp]; exact run_value h1, h2⟩
  | unOp op t x =>
    obtain ⟨c, h1, h2⟩ := some_pu hc; cases h2
    simp only [evPu] at hv
    cases h3 : ρ c with
    | none => rw [h3] at hv; cases hv
    | some u =>
      rw [h3] at hv
      obtain ⟨v', e1, e2⟩ := unop_run (P := P) (w := w) (hr.one h1 h3) hv
      exact ⟨v', run_value e1, e2⟩
  | convert s d x =>
    simp only [compOper] at hc
    cases h1 : oc x with
    | none => rw [h1] at hc; cases hc
    | some c =>
      rw [h1] at hc
      simp only at hc
      split at hc
      · rename_i k1 k2 hu1 hu2
        cases hc
        simp only [evPu] at hv
        split at hv
        · rename_i k n h3
          cases hv
          have hx := (hr.one h1 h3).inv_i
          exact ⟨.int k2 (k2.wrap n), by simp [execOp, Go.convert, run_underlying hu1, run_underlying hu2, Conv.intToInt, hx], by rw [wr_eq]; exact .i _ _⟩
        · cases hv
      · rename_i hu1 hu2
        cases hc
        simp only [evPu] at hv
        cases h3 : ρ c with
        | none => rw [h3] at hv; cases hv
        | some u =>
          rw [h3] at hv
          cases u with
          | s l =>
            cases hv
            have hx := hr.one h1 h3
            have hx' := hx.inv_s.1
            exact ⟨ev x, by simp [execOp, Go.convert, run_underlying hu1, run_underlying hu2, hx'], hx⟩
          | _ => cases hv
      · split at hc <;> cases hc
      · split at hc <;> cases hc
      · cases hc
  | makeInterface t x =>
    simp only [compOper] at hc
    split at hc
    · cases hc
    · cases hc
    · rename_i d hn hu
      obtain ⟨c, h1, h2⟩ := some_pu hc; cases h2
      simp only [evPu] at hv
      cases h3 : ρ c with
      | none => rw [h3] at hv; cases hv
      | some u =>
        rw [h3] at hv
        cases hv
        refine ⟨.iface t (ev x), ?_, .ic _ _ _ (hr.one h1 h3)⟩
        simp only [execOp, Instr.makeInterface]
        cases d <;> first | (exact (hn _ rfl).elim) | simp [run_underlying hu]
  | makeFunc fn a b =>
    cases fn with
    | func f =>
      simp only [compOper] at hc
      split at hc
      · rename_i a' b' h1 h2
        rcases cond_eq_true hc with ⟨hf, hc⟩ | ⟨_, hc⟩
        case inr => cases hc
        cases hc
        rw [blt_iff] at hf
        have hf : f < 16777216 := by simpa using hf
        simp only [evPu] at hv
        cases h3 : rvs ρ a' with
        | none => rw [h3] at hv; cases hv
        | some xs =>
          cases h4 : rvs ρ b' with
          | none => rw [h3, h4] at hv; cases hv
          | some ys =>
            rw [h3, h4] at hv
            cases hv
            refine ⟨.func (.func f) (a.map ev) (b.map ev), rfl, ?_⟩
            have := VR.f (φ := φ) (pos f) xs ys _ _ (hr.all h1 h3) (hr.all h2 h4)
            rw [pos_num hf] at this
            rw [arr_map, arr_map]
            exact this
      · cases hc
    | _ => cases hc
  | sliceToArrayPointer d x => cases hc
  | makeMap t r => cases r <;> cases hc
  | makeChan t n => cases hc
  | makeSlice t n c =>
    simp only [compOper] at hc
    split at hc
    · split at hc
      · rcases cond_eq_true hc with ⟨_, hc⟩ | ⟨_, hc⟩ <;> cases hc
      · cases hc
    · cases hc
  | slice t x lo hi mx =>
    simp only [compOper] at hc
    split at hc
    · rename_i a lo' hi' mx' h1 h2 h3 h4
      have arr : ∀ {n : Nat} {e : TypeId} {s : Nat}, szOf P e = some s → p = .sa n s a lo' hi' mx' → ∃ nm o L l h m, ρ a = some (.p nm o) ∧ φ nm = some L ∧ ev x = .pointer (some ⟨L.b, L.base + o, none⟩) ∧
          (∀ b, (Instr.sliceBounds b n n (lo.map ev) (hi.map ev) (mx.map ev)).run P w = .ok (l, h, m) w) ∧
          VR φ v (.slice (some (if m = l then (⟨L.b, L.base + o, none⟩ : Addr) else (⟨L.b, L.base + o, none⟩ : Addr).add (l * s))) (h - l) (m - l)) := by
        intro n e s hs hp
        subst hp
        simp only [evPu] at hv
        split at hv
        · rename_i nm o lo2 hi2 mx2 e1 e2 e3 e4
          cases hb : bnds n n lo2 hi2 mx2 with
          | none => rw [hb] at hv; cases hv
          | some r =>
            obtain ⟨l, h, m⟩ := r
            rw [hb] at hv
            simp only [Option.some.injEq, beq_iff] at hv
            obtain ⟨L, hL, hx⟩ := (hr.one h1 e1).inv_p
            refine ⟨nm, o, L, l, h, m, e1, hL, hx, fun b => run_bounds hb (hr.bnd h2 e2) (hr.bnd h3 e3) (hr.bnd h4 e4) b, ?_⟩
            by_cases hm : m = l
            · subst hm
              simp at hv; subst hv
              simpa using VR.sl nm o (h - m) 0 L hL
            · simp [hm] at hv; subst hv
              have := VR.sl nm (o + l * s) (h - l) (m - l) L hL
              simpa [hm, add_plain, Nat.add_assoc] using this
        · cases hv
      split at hc
      · rename_i n e hu
        obtain ⟨s, hs, h6⟩ := some_pu hc; cases h6
        obtain ⟨nm, o, L, l, h, m, e1, e2, e3, e4, e5⟩ := arr hs rfl
        refine ⟨_, ?_, e5⟩
        simp only [execOp]
        refine run_value ?_
        simp [Instr.sliceAt, run_underlying hu, e3, Instr.sureAddr, e4, run_size hs]
      · rename_i r hu
        split at hc
        · rename_i n e hu2
          obtain ⟨s, hs, h6⟩ := some_pu hc; cases h6
          obtain ⟨nm, o, L, l, h, m, e1, e2, e3, e4, e5⟩ := arr hs rfl
          refine ⟨_, ?_, e5⟩
          simp only [execOp]
          refine run_value ?_
          simp [Instr.sliceAt, Instr.slice, run_underlying hu, run_underlying hu2, e3, asAddr, e4, run_size hs]
        · cases hc
      · rename_i e hu
        obtain ⟨s, hs, h6⟩ := some_pu hc; cases h6
        simp only [evPu] at hv
        split at hv
        · rename_i x1 lo2 hi2 mx2 e1 e2 e3 e4
          obtain ⟨v', h7, h8⟩ := slc_run (P := P) (w := w) hu hs (hr.one h1 e1) hv (hr.bnd h2 e2) (hr.bnd h3 e3) (hr.bnd h4 e4)
          refine ⟨v', ?_, h8⟩
          simp only [execOp]
          refine run_value ?_
          simpa [Instr.sliceAt, run_underlying hu] using h7
        · cases hv
      · rename_i hu
        split at hc
        · rename_i hmx
          cases hc
          have hmx' : mx = none := by
            cases mx with
            | none => rfl
            | some y => simp only [oco, Option.map_eq_some_iff] at h4; obtain ⟨_, _, h4⟩ := h4; cases h4
          subst hmx'
          simp only [evPu] at hv
          split at hv
          · rename_i l lo2 hi2 e1 e2 e3
            split at hv
            · rename_i a b m hb
              cases hv
              obtain ⟨v', h7, h8⟩ := run_string_slice hu (hr.one h1 e1) hb (hr.bnd h2 e2) (hr.bnd h3 e3) w
              refine ⟨v', ?_, h8⟩
              simp only [execOp]
              refine run_value ?_
              simpa [Instr.sliceAt, run_underlying hu] using h7
            · cases hv
          · cases hv
        · cases hc
      · cases hc
    · cases hc
  | fieldAddr s x f =>
    simp only [compOper] at hc
    split at hc
    · rename_i fs a hu h1
      split at hc
      · rename_i fd hf
        split at hc
        · rename_i n hs
          rcases cond_eq_true hc with ⟨_, hc⟩ | ⟨h0, hc⟩
          · cases hc
          · cases hc
            rw [beq_iff] at h0
            have h0 : ¬ n = 0 := by simpa using h0
            simp only [evPu] at hv
            split at hv
            · rename_i nm o h3
              cases hv
              obtain ⟨L, hL, hx⟩ := (hr.one h1 h3).inv_p
              refine ⟨.pointer (some ⟨L.b, L.base + (o + fd.offset), none⟩), ?_, .p _ _ _ hL⟩
              simp only [execOp]
              refine run_value ?_
              simp [Instr.fieldAt, run_underlying hu, hf, hx, Instr.sureAddr, fieldPlace, run_size hs, h0, add_plain, Nat.add_assoc]
            · cases hv
        · cases hc
      · cases hc
    · cases hc
  | field t x f =>
    simp only [compOper] at hc
    split at hc
    · rename_i fs a hu h1
      split at hc
      · rename_i fd hf
        split at hc
        · rename_i n gg hs hg
          cases hc
          simp only [evPu] at hv
          split at hv
          · rename_i l h3
            obtain ⟨vs, hvs, hx⟩ := (hr.one h1 h3).inv_ag
            obtain ⟨v', e1, e2⟩ := part_run (P := P) (w := w) hg hs hvs hv
            refine ⟨v', ?_, e2⟩
            simp only [execOp]
            refine run_value ?_
            simp [Instr.field, run_underlying hu, hf, hx, asAgg, e1]
          · cases hv
        · cases hc
      · cases hc
    · cases hc
  | indexAddr t x i =>
    simp only [compOper] at hc
    split at hc
    · rename_i e a i' hu h1 h2
      obtain ⟨s, hs, h6⟩ := some_pu hc; cases h6
      simp only [evPu] at hv
      split at hv
      · rename_i x1 v1 h3 h4
        split at hv
        · rename_i j hj
          obtain ⟨k, hk⟩ := (hr.one h2 h4).nat hj
          obtain ⟨v', e1, e2⟩ := run_indexAt_slice (k := k) hu hs (hr.one h1 h3) hv w
          refine ⟨v', ?_, e2⟩
          simp only [execOp]
          refine run_value ?_
          rw [hk]; exact e1
        · cases hv
      · cases hv
    · rename_i n e a i' hu h1 h2
      obtain ⟨s, hs, h6⟩ := some_pu hc; cases h6
      simp only [evPu] at hv
      split at hv
      · rename_i nm o v1 h3 h4
        split at hv
        · rename_i j hj
          obtain ⟨k, hk⟩ := (hr.one h2 h4).nat hj
          obtain ⟨v', e1, e2⟩ := run_indexAt_array (k := k) hu hs (hr.one h1 h3) hv w
          refine ⟨v', ?_, e2⟩
          simp only [execOp]
          refine run_value ?_
          rw [hk]; exact e1
        · cases hv
      · cases hv
    · cases hc
  | index t x i =>
    simp only [compOper] at hc
    split at hc
    · rename_i n e a i' hu h1 h2
      split at hc
      · rename_i s gg hs hg
        cases hc
        simp only [evPu] at hv
        split at hv
        · rename_i l v1 h3 h4
          split at hv
          · rename_i j hj
            obtain ⟨k, hk⟩ := (hr.one h2 h4).nat hj
            obtain ⟨v', e1, e2⟩ := run_index_array (k := k) hu hs hg (hr.one h1 h3) hv w
            refine ⟨v', ?_, e2⟩
            simp only [execOp]
            refine run_value ?_
            rw [hk]; exact e1
          · cases hv
        · cases hv
      · cases hc
    · rename_i a i' hu h1 h2
      cases hc
      simp only [evPu] at hv
      split at hv
      · rename_i l v1 h3 h4
        split at hv
        · rename_i j hj
          split at hv
          · rename_i b hb
            cases hv
            obtain ⟨k, hk⟩ := (hr.one h2 h4).nat hj
            refine ⟨.int .u8 (b : Int), ?_, .i _ _⟩
            simp only [execOp]
            refine run_value ?_
            rw [hk]; exact run_index_string hu (hr.one h1 h3) hb w
          · cases hv
        · cases hv
      · cases hv
    · cases hc
  | lookup t m k ok =>
    simp only [compOper] at hc
    split at hc
    · split at hc <;> cases hc
    · cases hc
  | mapUpdate t m k x =>
    simp only [compOper] at hc
    split at hc
    · obtain ⟨_, _, h⟩ := some_pu hc; cases h
    · cases hc
  | insert t m k x =>
    simp only [compOper] at hc
    split at hc
    · obtain ⟨_, _, h⟩ := some_pu hc; cases h
    · cases hc
  | mapEntry t m k => cases hc
  | entryStore t m s x => cases hc
  | range t x => simp only [compOper] at hc; split at hc <;> cases hc
  | next it s => obtain ⟨_, _, h⟩ := some_pu hc; cases s <;> cases h
  | entry it => obtain ⟨_, _, h⟩ := some_pu hc; cases h
  | typeAssert x xt a ok =>
    simp only [compOper] at hc
    split at hc
    · cases hc
    · rename_i d x' z hn hu h1 hz
      cases hc
      obtain ⟨z', e1, e2⟩ := zeOf_run (φ := φ) hz w
      have hres : ∀ {v : AV}, (∃ c : Bool, c = true ∧ some (AV.tu [z, .b false]) = some v) → VR φ v (.tuple #[z', .bool false]) := by
        rintro v ⟨_, _, h⟩
        cases h
        exact .tu _ _ (.cons e2 (.cons (.b false) .nil))
      simp only [evPu] at hv
      split at hv
      · rename_i t' y h3
        obtain ⟨y', hy, hx⟩ := (hr.one h1 h3).inv_ic
        rcases cond_eq_true hv with ⟨ht, hv1⟩ | ⟨ht, hv⟩
        · rw [beq_iff] at ht
          have ht : a = t' := by simpa using ht
          clear hv
          subst ht
          have hv := Option.some.inj hv1
          subst hv
          cases ok with
          | true =>
            refine ⟨.tuple #[y', .bool true], ?_, .tu _ _ (.cons hy (.cons (.b true) .nil))⟩
            simp only [execOp]
            refine run_value ?_
            simp only [Instr.typeAssert, Sem.run_bind, run_underlying hu, Result.andThen_ok, hx]
            cases d <;> first | (exact (hn _ rfl).elim) | simp
          | false =>
            refine ⟨y', ?_, hy⟩
            simp only [execOp]
            refine run_value ?_
            simp only [Instr.typeAssert, Sem.run_bind, run_underlying hu, Result.andThen_ok, hx]
            cases d <;> first | (exact (hn _ rfl).elim) | simp
        · rw [beq_iff] at ht
          have ht : ¬ a = t' := by simpa using ht
          rcases cond_eq_true hv with ⟨hok, hv⟩ | ⟨_, hv⟩
          · subst hok
            refine ⟨.tuple #[z', .bool false], ?_, hres ⟨true, rfl, hv⟩⟩
            simp only [execOp]
            refine run_value ?_
            simp only [Instr.typeAssert, Sem.run_bind, run_underlying hu, Result.andThen_ok, hx]
            have ht' : ¬ t' = a := fun e => ht e.symm
            cases d <;> first | (exact (hn _ rfl).elim) | simp [ht', e1]
          · cases hv
      · rename_i h3
        rcases cond_eq_true hv with ⟨hok, hv⟩ | ⟨_, hv⟩
        · subst hok
          have hx := hr.one h1 h3
          have hx : ev x = .nilIface := by generalize ev x = vx at hx; cases hx; rfl
          refine ⟨.tuple #[z', .bool false], ?_, hres ⟨true, rfl, hv⟩⟩
          simp only [execOp]
          refine run_value ?_
          simp only [Instr.typeAssert, Sem.run_bind, run_underlying hu, Result.andThen_ok, hx]
          cases d <;> first | (exact (hn _ rfl).elim) | simp [e1]
        · cases hv
      · cases hv
    · cases hc
  | extract t i =>
    obtain ⟨c, h1, h2⟩ := some_pu hc; cases h2
    simp only [evPu] at hv
    split at hv
    · rename_i l h3
      obtain ⟨vs, hvs, hx⟩ := (hr.one h1 h3).inv_tu
      rw [nth_eq] at hv
      obtain ⟨v', e1, e2⟩ := hvs.get i v hv
      refine ⟨v', ?_, e2⟩
      simp only [execOp]
      refine run_value ?_
      simp [Instr.extract, hx, e1]
    · cases hv
  | call c => exact pu_call hr hc hv w
  | go c => cases hc
  | defer c =>
    simp only [compOper] at hc
    split at hc
    · split at hc <;> cases hc
    · cases hc
  | panic x => cases hc
  | ready g => cases hc
  | waits g => cases hc
  | send c x => cases hc
  | recv t c ok => cases hc
  | select cs b => cases hc
end
end Go.Ev
namespace Go.Ev
open Go

section
variable {P : Program} {dyn : List TypeId} {φ : Phi} {h : TT AO} {w : World}

theorem rdc_cells (hh : HR P dyn φ (fun p => h.get p) w) {n : Pos} {l : List AV} (hr : rdc h n = some l) {L : Loc} (hL : φ n = some L) :
    ∀ (i : Nat) (v : AV), l[i]? = some v → oneC v = true ∧ ∃ v', w.cell? ⟨L.b, L.base + i, none⟩ = some v' ∧ VR φ v v' := by
  intro i v hv
  unfold rdc at hr
  split at hr
  · rename_i l' opn hn
    cases hr
    obtain ⟨L', ob, h1, h2, h3⟩ := hh.blk n _ hn
    rw [hL] at h1; cases h1
    cases h3 with
    | c _ _ arr t hs hl ho hc =>
      obtain ⟨h4, v', h5, h6⟩ := hc i v hv
      exact ⟨h4, v', by simp [World.cell?, h2, h5], h6⟩
  · rename_i l' hn
    cases hr
    obtain ⟨L', ob, h1, h2, h3⟩ := hh.blk n _ hn
    rw [hL] at h1; cases h1
    cases h3 with
    | cb _ arr t fz hs hl hc =>
      obtain ⟨h4, v', h5, h6⟩ := hc i v hv
      exact ⟨h4, v', by simp [World.cell?, h2, h5], h6⟩
  · cases hr

/-- values for each of a list. -/
theorem collect {φ : Phi} {C : Nat → Value → Prop} : ∀ (r : List AV), (∀ i v, r[i]? = some v → ∃ v', C i v' ∧ VR φ v v') → ∃ vs : List Value, VRs φ r vs ∧ ∀ (i : Nat) (v' : Value), vs[i]? = some v' → C i v'
  | [], _ => ⟨[], .nil, fun i v' h => by simp at h⟩
  | x :: r, H => by
    obtain ⟨v, hc, hv⟩ := H 0 x rfl
    obtain ⟨vs, h1, h2⟩ := collect (C := fun i => C (i + 1)) r (fun i v hi => H (i + 1) v (by simpa using hi))
    exact ⟨v :: vs, .cons hv h1, fun i v' hi => by
      cases i with
      | zero => simp at hi; subst hi; exact hc
      | succ i => exact h2 i v' (by simpa using hi)⟩

theorem cel_run (hh : HR P dyn φ (fun p => h.get p) w) {n : Pos} {off sz : Nat} {r : List AV} (hr : cel h n off sz = some r) {L : Loc} (hL : φ n = some L) :
    ∃ vs, VRs φ r vs ∧ (loadCells ⟨L.b, L.base + off, none⟩ sz).run P w = .ok ⟨vs⟩ w ∧ r.length = sz := by
  unfold cel at hr
  split at hr
  · rename_i l hl
    simp only [tak_eq, drp_eq, len_eq, beq_iff] at hr
    rcases cond_eq_true hr with ⟨h1, h2⟩ | ⟨_, h2⟩
    · cases h2
      have hlen : ((l.drop off).take sz).length = sz := by simpa using h1
      obtain ⟨vs, h3, h4⟩ := collect (φ := φ) (C := fun i v' => w.cell? ⟨L.b, L.base + off + i, none⟩ = some v') ((l.drop off).take sz) (fun i v hv => by
        have hv' : l[off + i]? = some v := by
          rw [List.getElem?_take] at hv
          split at hv
          · simpa using hv
          · cases hv
        obtain ⟨_, v', h5, h6⟩ := rdc_cells hh hl hL (off + i) v hv'
        exact ⟨v', by rw [Nat.add_assoc]; exact h5, h6⟩)
      refine ⟨vs, h3, ?_, hlen⟩
      have := run_loadCells_list (P := P) w ⟨L.b, L.base + off, none⟩ vs (fun j v hj => by rw [add_plain]; exact h4 j v hj)
      rw [← h3.length, hlen] at this
      exact this
    · cases h2
  · cases hr

/-- what an address reads. -/
theorem ld_run (hh : HR P dyn φ (fun p => h.get p) w) {t : TypeId} {sz : Nat} {g : Bool} (hs : szOf P t = some sz) (hg : agOf P t = some g) {n : Pos} {off : Nat} {x : Value} (hx : VR φ (.p n off) x) {v : AV}
    (hv : cond g (match cel h n off sz with | some r => some (AV.ag r) | none => none) (match rdc h n with | some l => nth off l | none => none) = some v) :
    ∃ v', (Instr.loadAt t x).run P w = .ok v' w ∧ VR φ v v' := by
  obtain ⟨L, hL, rfl⟩ := hx.inv_p
  cases g with
  | true =>
    simp only [cond_true] at hv
    cases hc : cel h n off sz with
    | none => rw [hc] at hv; cases hv
    | some r =>
      rw [hc] at hv; cases hv
      obtain ⟨vs, h1, h2, _⟩ := cel_run hh hc hL
      exact ⟨.agg ⟨vs⟩, by simp [Instr.loadAt, Instr.sureAddr, loadVar, run_agg hg, run_size hs, h2], .ag _ _ h1⟩
  | false =>
    simp only [cond_false] at hv
    cases hc : rdc h n with
    | none => rw [hc] at hv; cases hv
    | some l =>
      rw [hc] at hv
      simp only [nth_eq] at hv
      obtain ⟨_, v', h1, h2⟩ := rdc_cells hh hc hL off v hv
      exact ⟨v', by simp [Instr.loadAt, Instr.sureAddr, loadVar, run_agg hg, h1], h2⟩

/-! ### Keys -/
theorem shp_succ (n : Nat) : shp (n + 1) = fun e x =>
    match e, x with
    | .lb, .b _ => true
    | .li, .i _ _ => true
    | .ls, .s _ => true
    | .st fs, .ag xs => each true (fun (f : Nat × Nat × Bool × ESh) r =>
        match f with
        | (off, sz, agg, e) => match Ev.part agg off sz xs with
          | some a => shp n e a && r
          | none => false) fs
    | _, _ => false := rfl
end

def CkIh (P : Program) (w : World) (φ : Phi) (n d : Nat) (b : Bool) : Prop := ∀ {e : ESh} {t : TypeId} {x : AV} {x' : Value}, ER P e t → shp n e x = true → VR φ x x' → (Instr.checkKey b d t x').run P w = .ok () w
noncomputable def shpPart (n : Nat) (xs : List AV) (f : Nat × Nat × Bool × ESh) (r : Bool) : Bool :=
  match f with
  | (off, sz, agg, e) => match Ev.part agg off sz xs with
    | some a => shp n e a && r
    | none => false
theorem shpPart_run {P : Program} {w : World} {φ : Phi} {n d : Nat} {b : Bool} (ih : CkIh P w φ n d b) {xs : List AV} {vs : List Value} (hx : VRs φ xs vs) {t : TypeId} {off s : Nat} {a : Bool} {x : ESh} {k : Bool}
    (hs : szOf P t = some s) (ha : agOf P t = some a) (he : ER P x t) (h : shpPart n xs (off, s, a, x) k = true) :
    ∃ u, (Go.part t ⟨vs⟩ off).run P w = .ok u w ∧ (Instr.checkKey b d t u).run P w = .ok () w ∧ k = true := by
  unfold shpPart at h
  simp only at h
  cases h1 : Ev.part a off s xs with
  | none => rw [h1] at h; cases h
  | some u =>
    rw [h1] at h
    simp only [Bool.and_eq_true] at h
    obtain ⟨u', e1, r1⟩ := part_run (P := P) (w := w) ha hs hx h1
    exact ⟨u', e1, ih he h.1 r1, h.2⟩
theorem shpFields_run {P : Program} {w : World} {φ : Phi} {n d : Nat} {b : Bool} (ih : CkIh P w φ n d b) {xs : List AV} {vs : List Value} (hx : VRs φ xs vs) :
    ∀ (fl : List Field) (l : List (Nat × Nat × Bool × ESh)), FR P fl l → each true (shpPart n xs) l = true →
      (forIn (m := Sem) fl PUnit.unit fun f _ => do
        if f.name ≠ "_" then Instr.checkKey b d f.type (← Go.part f.type ⟨vs⟩ f.offset)
        pure (ForInStep.yield PUnit.unit)).run P w = .ok PUnit.unit w
  | [], _, .nil, _ => rfl
  | f :: fl, _, .cons (l := l) hn hs ha he ht, h => by
    obtain ⟨u, e1, e2, hk⟩ := shpPart_run (k := each true (shpPart n xs) l) ih hx hs ha he h
    have ih2 := shpFields_run ih hx fl l ht hk
    rw [List.forIn_cons]
    simp only [ne_eq, hn, not_false_eq_true, if_true, Sem.run_bind, e1, Result.andThen_ok, e2, Sem.run_pure]
    exact ih2
theorem shpElems_run {P : Program} {w : World} {φ : Phi} {n d : Nat} {b : Bool} (ih : CkIh P w φ n d b) {xs : List AV} {vs : List Value} (hx : VRs φ xs vs) {e : TypeId} {s : Nat} {a : Bool} {x : ESh}
    (hs : szOf P e = some s) (ha : agOf P e = some a) (he : ER P x e) :
    ∀ (il : List Nat), each true (shpPart n xs) (il.map fun i => (i * s, s, a, x)) = true →
      (forIn (m := Sem) il PUnit.unit fun i _ => do
        let s ← sizeOf e
        let v ← Go.part e ⟨vs⟩ (i * s)
        Instr.checkKey b d e v
        pure (ForInStep.yield PUnit.unit)).run P w = .ok PUnit.unit w
  | [], _ => rfl
  | i :: il, h => by
    obtain ⟨u, e1, e2, hk⟩ := shpPart_run (k := each true (shpPart n xs) (il.map fun i => (i * s, s, a, x))) ih hx hs ha he h
    have ih2 := shpElems_run ih hx hs ha he il hk
    rw [List.forIn_cons]
    simp only [Sem.run_bind, run_size hs, Result.andThen_ok, e1, e2, Sem.run_pure]
    exact ih2
theorem checkKey_run {P : Program} {w : World} {φ : Phi} {b : Bool} : ∀ (n : Nat) {e : ESh} {t : TypeId} {x : AV} {x' : Value}, ER P e t → shp n e x = true → VR φ x x' → ∀ d, n ≤ d → (Instr.checkKey b d t x').run P w = .ok () w
  | 0, e, t, x, x', _, h, _, d, _ => by cases h
  | n + 1, e, t, x, x', he, h, hx, d, hd => by
    obtain ⟨d, rfl⟩ : ∃ m, d = m + 1 := ⟨d - 1, by omega⟩
    rw [shp_succ] at h
    have ih : CkIh P w φ n d b := fun he h hx => checkKey_run n he h hx d (by omega)
    cases he with
    | lb ht => cases x <;> simp only [reduceCtorEq] at h; cases hx; simp [Instr.checkKey, run_underlying ht]
    | li k ht => cases x <;> simp only [reduceCtorEq] at h; cases hx; simp [Instr.checkKey, run_underlying ht]
    | ls ht => cases x <;> simp only [reduceCtorEq] at h; cases hx; simp [Instr.checkKey, run_underlying ht]
    | st fs l ht hs hf =>
      cases x <;> simp only [reduceCtorEq] at h
      rename_i xs
      obtain ⟨vs, hvs, rfl⟩ := hx.inv_ag
      have := shpFields_run ih hvs fs.toList l hf h
      simp only [Instr.checkKey, Sem.run_bind, run_underlying ht, Result.andThen_ok]
      rw [← Array.forIn_toList]
      simp only [ne_eq] at this ⊢
      rw [this]
      rfl
    | ar m el s a x1 ht hs ha hx1 =>
      cases x <;> simp only [reduceCtorEq] at h
      rename_i xs
      obtain ⟨vs, hvs, rfl⟩ := hx.inv_ag
      simp only [Instr.checkKey, Sem.run_bind, run_underlying ht, Result.andThen_ok]
      simp only [Std.Legacy.Range.forIn_eq_forIn_range', Std.Legacy.Range.size, Nat.sub_zero, Nat.add_sub_cancel, Nat.div_one]
      rw [← List.range_eq_range', shpElems_run ih hvs hs ha hx1 (List.range m) h]
      rfl

/-! ### Entries -/
theorem sameNow_st {P : Program} {l : List (Nat × Nat × Bool × ESh)} {t : TypeId} {u : TypeDesc} (he : ER P (.st l) t) (hu : P.underlying t = some u) (x y : Value) : Instr.sameNow u x y = none := by
  cases he with
  | st fs l ht hs hf => rw [hu] at ht; cases ht; cases x <;> cases y <;> rfl
  | ar m el s a x1 ht hs ha hx1 => rw [hu] at ht; cases ht; cases x <;> cases y <;> rfl
theorem sameNow_run {P : Program} {φ : Phi} {e : ESh} {t : TypeId} {u : TypeDesc} (hu : P.underlying t = some u) {x y : AV} {x' y' : Value} {r : Bool} (he : ER P e t) (h : eqSh 12 e x y = some r) (hx : VR φ x x') (hy : VR φ y y') :
    (Instr.sameNow u x' y' = none ∧ ∃ l, e = .st l) ∨ Instr.sameNow u x' y' = some r := by
  have h' : eqSh (11 + 1) e x y = some r := h
  rw [eqSh_succ] at h'
  cases he with
  | lb ht =>
    rw [hu] at ht; cases ht
    cases x <;> cases y <;> simp only [reduceCtorEq, Option.some.injEq] at h'
    cases hx; cases hy; subst h'
    exact .inr rfl
  | li k ht =>
    rw [hu] at ht; cases ht
    cases x <;> cases y <;> simp only [reduceCtorEq] at h'
    rename_i k1 a k2 c
    cases hx; cases hy
    rcases cond_eq_true h' with ⟨h1, h2⟩ | ⟨_, h2⟩
    · cases h2
      have : k1 = k2 := by simpa using h1
      subst this
      right
      simp [Instr.sameNow, eqI_eq]
    · cases h2
  | ls ht =>
    rw [hu] at ht; cases ht
    cases x <;> cases y <;> simp only [reduceCtorEq, Option.some.injEq] at h'
    cases hx with
    | s a ha => cases hy with
      | s c hc =>
        subst h'
        right
        simp only [Instr.sameNow]
        rw [eqL_eq _ _ ha hc, beq_toListBytes, strOf_toList, strOf_toList]
  | st fs l ht hs hf =>
    rw [hu] at ht; cases ht
    exact .inl ⟨by cases x' <;> cases y' <;> rfl, _, rfl⟩
  | ar m el s a x1 ht hs ha hx1 =>
    rw [hu] at ht; cases ht
    exact .inl ⟨by cases x' <;> cases y' <;> rfl, _, rfl⟩

theorem fndFrom_cons (e : ESh) (k : AV) (x : AV × AV × Nat) (l : List (AV × AV × Nat)) (i : Nat) :
    fndFrom e k (x :: l) i = match eqSh 12 e k x.1 with | some true => some (some (i, x.2)) | some false => fndFrom e k l (i + 1) | none => none := rfl

/-- an entry found, or none. -/
def FndOk (φ : Phi) (es : List (AV × AV × Nat)) (es' : List MapEntry) (i0 : Nat) : Option (Nat × AV × Nat) → Option (Nat × Value) → Prop
  | none, none => True
  | some (i, v, n), some (i', v') => i = i' ∧ VR φ v v' ∧ i0 ≤ i ∧ (∃ k, es[i - i0]? = some (k, v, n)) ∧ ∃ k', es'[i - i0]? = some ⟨k', v', n⟩
  | _, _ => False
theorem FndOk.shift {φ : Phi} {es : List (AV × AV × Nat)} {es' : List MapEntry} {i0 : Nat} {x : AV × AV × Nat} {x' : MapEntry} {r : Option (Nat × AV × Nat)} {r' : Option (Nat × Value)} (h : FndOk φ es es' (i0 + 1) r r') : FndOk φ (x :: es) (x' :: es') i0 r r' := by
  cases r with
  | none => cases r' with
    | none => trivial
    | some _ => cases h
  | some r =>
    obtain ⟨i, v, n⟩ := r
    cases r' with
    | none => cases h
    | some r' =>
      obtain ⟨i', v'⟩ := r'
      obtain ⟨rfl, h1, h2, ⟨k, h3⟩, k', h4⟩ := h
      refine ⟨rfl, h1, by omega, ⟨k, ?_⟩, k', ?_⟩
      · rw [show i - i0 = (i - (i0 + 1)) + 1 by omega]; simpa using h3
      · rw [show i - i0 = (i - (i0 + 1)) + 1 by omega]; simpa using h4
theorem findNow_run {P : Program} {φ : Phi} {e : ESh} {t : TypeId} {u : TypeDesc} (hu : P.underlying t = some u) (he : ER P e t) {k : AV} {k' : Value} (hk : VR φ k k') (hne : ¬ ∃ l, e = .st l) :
    ∀ {es : List (AV × AV × Nat)} {es' : List MapEntry} {i : Nat} {r : Option (Nat × AV × Nat)}, MRs φ es es' → fndFrom e k es i = some r → ∃ r', Instr.findNow u k' es' i = some r' ∧ FndOk φ es es' i r r' := by
  intro es
  induction es with
  | nil => intro es' i r hm h; cases hm; cases h; exact ⟨none, rfl, trivial⟩
  | cons x es ih =>
    intro es' i r hm h
    cases hm with
    | cons h1 h2 ht =>
      rw [fndFrom_cons] at h
      simp only at h
      split at h
      · rename_i hq
        cases h
        rcases sameNow_run hu he hq hk h1 with ⟨_, h3⟩ | h3
        · exact absurd h3 hne
        · exact ⟨some (i, _), by simp [Instr.findNow, h3], rfl, h2, Nat.le_refl _, ⟨_, by simp; rfl⟩, _, by simp; rfl⟩
      · rename_i hq
        rcases sameNow_run hu he hq hk h1 with ⟨_, h3⟩ | h3
        · exact absurd h3 hne
        · obtain ⟨r', h4, h5⟩ := ih ht h
          exact ⟨r', by simp [Instr.findNow, h3, h4], h5.shift⟩
      · cases h
theorem findAsking_run {P : Program} {w : World} {φ : Phi} {e : ESh} {t : TypeId} (he : ER P e t) {k : AV} {k' : Value} (hk : VR φ k k') :
    ∀ {es : List (AV × AV × Nat)} {es' : List MapEntry} {i : Nat} {r : Option (Nat × AV × Nat)}, MRs φ es es' → fndFrom e k es i = some r → ∃ r', (Instr.findAsking t k' es' i).run P w = .ok r' w ∧ FndOk φ es es' i r r' := by
  intro es
  induction es with
  | nil => intro es' i r hm h; cases hm; cases h; exact ⟨none, rfl, trivial⟩
  | cons x es ih =>
    intro es' i r hm h
    cases hm with
    | cons h1 h2 ht =>
      rw [fndFrom_cons] at h
      simp only at h
      split at h
      · rename_i hq
        cases h
        have h3 := eqSh_run (P := P) (w := w) 12 he hq hk h1 10000 (by omega)
        have h3 : (Op.equal t k' _).run P w = _ := h3
        exact ⟨some (i, _), by simp [Instr.findAsking, h3], rfl, h2, Nat.le_refl _, ⟨_, by simp; rfl⟩, _, by simp; rfl⟩
      · rename_i hq
        have h3 := eqSh_run (P := P) (w := w) 12 he hq hk h1 10000 (by omega)
        have h3 : (Op.equal t k' _).run P w = _ := h3
        obtain ⟨r', h4, h5⟩ := ih ht h
        exact ⟨r', by simp [Instr.findAsking, h3, h4], h5.shift⟩
      · cases h
theorem findKey_run {P : Program} {w : World} {φ : Phi} {e : ESh} {t : TypeId} (he : ER P e t) {k : AV} {k' : Value} (hk : VR φ k k') {es : List (AV × AV × Nat)} {es' : List MapEntry} {r : Option (Nat × AV × Nat)} (hm : MRs φ es es')
    (h : fndFrom e k es 0 = some r) : ∃ r', (Instr.findKey t k' es').run P w = .ok r' w ∧ FndOk φ es es' 0 r r' := by
  have hu : ∃ u, P.underlying t = some u := by cases he <;> exact ⟨_, by assumption⟩
  obtain ⟨u, hu⟩ := hu
  by_cases hst : ∃ l, e = .st l
  · cases hm with
    | nil => cases h; exact ⟨none, by simp [Instr.findKey, run_underlying hu, Instr.findNow], trivial⟩
    | cons h1 h2 ht =>
      obtain ⟨r', h4, h5⟩ := findAsking_run (P := P) (w := w) he hk (.cons h1 h2 ht) h
      obtain ⟨l, rfl⟩ := hst
      exact ⟨r', by simp [Instr.findKey, run_underlying hu, Instr.findNow, sameNow_st he hu, h4], h5⟩
  · obtain ⟨r', h4, h5⟩ := findNow_run hu he hk hst hm h
    exact ⟨r', by simp [Instr.findKey, run_underlying hu, h4], h5⟩
end Go.Ev
namespace Go.Ev
open Go

section
variable {P : Program} {dyn : List TypeId} {φ : Phi} {oc : Operand → Option CV} {ρ : Rho} {ev : Operand → Value} {h : TT AO} {w : World}

/-- a map's block. -/
theorem map_blk (hh : HR P dyn φ (fun p => h.get p) w) {n : Pos} {es : List (AV × AV × Nat)} {clk : Nat} (hn : h.get n = some (.mp es clk)) {L : Loc} (hL : φ n = some L) :
    ∃ es', MRs φ es es' ∧ w.heap[L.b]? = some (.map ⟨es'⟩ clk) := by
  obtain ⟨L', ob, h1, h2, h3⟩ := hh.blk n _ hn
  rw [hL] at h1; cases h1
  cases h3 with
  | mp _ _ es' hm => exact ⟨es', hm, h2⟩
theorem run_getObj_map {b : Nat} {es : Array MapEntry} {clk : Nat} (hb : w.heap[b]? = some (.map es clk)) : (getObj b).run P w = .ok (.map es clk) w := by
  simp [getObj, Sem.run, hb]
theorem MRs.length {es : List (AV × AV × Nat)} {es' : List MapEntry} (h : MRs φ es es') : es.length = es'.length := by
  induction h with
  | nil => rfl
  | cons _ _ _ ih => simp [ih]

theorem rd_lookup (hr : RhoOk φ oc ρ ev) (hh : HR P dyn φ (fun p => h.get p) w) {t kt et : TypeId} {m k : Operand} {cm ck : CV} {e : ESh} {z : AV} {ok : Bool} {v : AV} (hu : P.underlying t = some (.map kt et)) (h1 : oc m = some cm) (h2 : oc k = some ck)
    (he : eshOf P 12 kt = some e) (hz : zeOf P et = some z) (hv : evRd ρ h (.lk e z ok cm ck) = some v) : ∃ v', (Instr.lookup t (ev m) (ev k) ok).run P w = .ok v' w ∧ VR φ v v' := by
  have hE := eshOf_ER 12 kt e he
  obtain ⟨z', e1, e2⟩ := zeOf_run (φ := φ) hz w
  have fin : ∀ {u : AV} {u' : Value} (b : Bool), VR φ u u' → some (cond ok (AV.tu [u, .b b]) u) = some v → VR φ v (if ok then .tuple #[u', .bool b] else u') := by
    intro u u' b hu he
    cases he
    cases ok with
    | true => exact .tu _ _ (.cons hu (.cons (.b b) .nil))
    | false => exact hu
  simp only [evRd] at hv
  split at hv
  · rename_i u h3 h4
    rcases cond_eq_true hv with ⟨hs, hv⟩ | ⟨_, hv⟩
    · have hm := hr.one h1 h3
      have hm : ev m = .map none := by generalize ev m = vm at hm; cases hm; rfl
      have hck := checkKey_run (P := P) (w := w) (b := true) 12 hE hs (hr.one h2 h4) 10000 (by omega)
      obtain ⟨r', h5, h6⟩ := findKey_run (P := P) (w := w) hE (hr.one h2 h4) (es := []) (es' := []) .nil rfl
      cases r' with
      | some r' => cases h6
      | none =>
        refine ⟨_, ?_, fin false e2 hv⟩
        simp only [Instr.lookup, Sem.run_bind, run_underlying hu, Result.andThen_ok, hm]
        simp only [Sem.run_pure, Result.andThen_ok]
        rw [show (#[] : Array MapEntry).isEmpty = true from rfl, hck]
        simp only [Result.andThen_ok, h5, Sem.run_bind, e1, Sem.run_pure]
    · cases hv
  · rename_i n u h3 h4
    split at hv
    · rename_i es clk hn
      obtain ⟨L, hL, hm⟩ := (hr.one h1 h3).inv_m
      obtain ⟨es', hmr, hb⟩ := map_blk hh hn hL
      unfold fnd at hv
      rcases hsq : cond_eq_true (c := shp 12 e u) (x := fndFrom e u es 0) (y := none) rfl with ⟨hs, hf⟩ | ⟨hs, hf⟩
      · rw [← hf] at hv
        cases hfr : fndFrom e u es 0 with
        | none => rw [hfr] at hv; cases hv
        | some r =>
          rw [hfr] at hv
          have hck := checkKey_run (P := P) (w := w) (b := (⟨es'⟩ : Array MapEntry).isEmpty) 12 hE hs (hr.one h2 h4) 10000 (by omega)
          obtain ⟨r', h5, h6⟩ := findKey_run (P := P) (w := w) hE (hr.one h2 h4) hmr hfr
          cases r with
          | none =>
            cases r' with
            | some r' => cases h6
            | none =>
              refine ⟨_, ?_, fin false e2 hv⟩
              simp only [Instr.lookup, Sem.run_bind, run_underlying hu, Result.andThen_ok, hm, run_getObj_map hb, Sem.run_pure, hck, h5, e1]
          | some r =>
            obtain ⟨i, y, born⟩ := r
            cases r' with
            | none => cases h6
            | some r' =>
              obtain ⟨i', y'⟩ := r'
              refine ⟨_, ?_, fin true h6.2.1 hv⟩
              simp only [Instr.lookup, Sem.run_bind, run_underlying hu, Result.andThen_ok, hm, run_getObj_map hb, Sem.run_pure, hck, h5]
      · rw [← hf] at hv; cases hv
    · cases hv
  · cases hv

/-- the first elements of a slice, as they lie. -/
theorem fst_run (hh : HR P dyn φ (fun p => h.get p) w) {esz n : Nat} {x : AV} {x' : Value} {r : List AV} (hx : VR φ x x') (hns : ¬ ∃ l, x = .s l) (hr : fst h esz n x = some r) :
    ∃ vs, VRs φ r vs ∧ (Builtin.firstCells esz n x').run P w = .ok ⟨vs⟩ w ∧ r.length = n * esz := by
  cases hx with
  | sl nm off l c L hL =>
    simp only [fst] at hr
    rcases cond_eq_true hr with ⟨_, hr⟩ | ⟨_, hr⟩
    · obtain ⟨vs, h1, h2, h3⟩ := cel_run hh hr hL
      exact ⟨vs, h1, by simpa [Builtin.firstCells] using h2, h3⟩
    · cases hr
  | su nm off l e L c hL hc hl he =>
    simp only [fst] at hr
    rcases cond_eq_true hr with ⟨_, hr⟩ | ⟨_, hr⟩
    · obtain ⟨vs, h1, h2, h3⟩ := cel_run hh hr hL
      exact ⟨vs, h1, by simpa [Builtin.firstCells] using h2, h3⟩
    · cases hr
  | se nm a c =>
    simp only [fst] at hr
    rcases cond_eq_true hr with ⟨h0, hr⟩ | ⟨_, hr⟩
    · cases hr
      rw [beq_iff] at h0
      have h0 : n = 0 := by simpa using h0
      subst h0
      exact ⟨[], .nil, by simp [Builtin.firstCells, loadCells, loadCellsFrom], by simp⟩
    · cases hr
  | sz =>
    simp only [fst] at hr
    rcases cond_eq_true hr with ⟨h0, hr⟩ | ⟨_, hr⟩
    · cases hr
      rw [beq_iff] at h0
      have h0 : n = 0 := by simpa using h0
      subst h0
      exact ⟨[], .nil, by simp [Builtin.firstCells], by simp⟩
    · cases hr
  | s l hl => exact absurd ⟨_, rfl⟩ hns
  | _ => cases hr

theorem bytesOf_run : ∀ {l : List AV} {ns : List Nat} {vs : List Value}, bytesOf l = some ns → VRs φ l vs → vs = ns.map (fun (n : Nat) => Value.int .u8 (n : Int)) ∧ ∀ x ∈ ns, x < 256
  | [], ns, vs, h1, h2 => by cases h2; cases h1; exact ⟨rfl, by simp⟩
  | x :: l, ns, vs, h1, h2 => by
    cases h2 with
    | cons hx ht =>
      change (match (generalizing := false) x with | .i .u8 (.ofNat n) => (match bytesOf l with | some l => cond (Nat.blt n 256) (some (n :: l)) none | none => none) | _ => none) = some ns at h1
      split at h1
      · rename_i n
        split at h1
        · rename_i l' hl
          rcases cond_eq_true h1 with ⟨h3, h4⟩ | ⟨_, h4⟩
          · cases h4
            rw [blt_iff] at h3
            obtain ⟨rfl, h6⟩ := bytesOf_run hl ht
            have := hx.inv_i
            subst this
            refine ⟨rfl, ?_⟩
            intro y hy
            rcases List.mem_cons.1 hy with rfl | hy
            · simpa using h3
            · exact h6 y hy
          · cases h4
        · cases h1
      · cases h1
theorem foldl_push : ∀ (ns : List Nat) (s : ByteArray), (ns.map (fun n => ((n : Nat) : Int))).foldl (fun r n => r.push (UInt8.ofNat n.toNat)) s = ⟨⟨s.data.toList ++ ns.map UInt8.ofNat⟩⟩
  | [], s => by obtain ⟨⟨l⟩⟩ := s; simp
  | n :: ns, s => by
    rw [List.map_cons, List.foldl_cons, foldl_push ns]
    obtain ⟨⟨l⟩⟩ := s
    simp [ByteArray.push]

theorem run_sameAddr_same (a : Nat) (o o' : Nat) (w : World) : (sameAddr ⟨a, o, none⟩ ⟨a, o', none⟩).run P w = .ok (decide (o = o')) w := by
  simp only [sameAddr, beq_self_eq_true, if_true, Sem.run_pure]
  by_cases h : o = o'
  · subst h; simp
  · have : ((⟨a, o, none⟩ : Addr) == ⟨a, o', none⟩) = false := by
      rw [beq_eq_false_iff_ne]
      intro e
      cases e
      exact h rfl
    rw [this]; simp [h]
theorem run_sameAddr_other {a b : Nat} {o o' : Nat} {w : World} {x y : Array Value} {t u : TypeId} (hab : a ≠ b) (h1 : w.heap[a]? = some (.cells x t (0, 0))) (h2 : w.heap[b]? = some (.cells y u (0, 0))) :
    (sameAddr ⟨a, o, none⟩ ⟨b, o', none⟩).run P w = .ok false w := by
  have f1 : ∀ n, (frozen ⟨a, n, none⟩).run P w = .ok false w := fun n => by simp [frozen, Sem.run, World.frozen?, h1]
  have f2 : ∀ n, (frozen ⟨b, n, none⟩).run P w = .ok false w := fun n => by simp [frozen, Sem.run, World.frozen?, h2]
  have s1 : (shape a).run P w = .ok (some (t, x.size)) w := by simp [shape, Sem.run, World.shape?, h1]
  have s2 : (shape b).run P w = .ok (some (u, y.size)) w := by simp [shape, Sem.run, World.shape?, h2]
  have v1 : (viewAt a).run P w = .ok none w := by simp only [viewAt, Sem.run_bind, s1, Result.andThen_ok]; rfl
  have v2 : (viewAt b).run P w = .ok none w := by simp only [viewAt, Sem.run_bind, s2, Result.andThen_ok]; rfl
  have g1 : (stringish ⟨a, o, none⟩).run P w = .ok false w := by simp only [stringish, Sem.run_bind, f1, Result.andThen_ok, Bool.false_eq_true, if_false, s1]
  have g2 : (stringish ⟨b, o', none⟩).run P w = .ok false w := by simp only [stringish, Sem.run_bind, f2, Result.andThen_ok, Bool.false_eq_true, if_false, s2]
  have hb : (a == b) = false := by simpa using hab
  simp only [sameAddr, hb, Bool.false_eq_true, if_false, Sem.run_bind, f1, f2, Result.andThen_ok]
  simp [noView, mayBeOne, Sem.run_bind, v1, v2, g1, g2, Result.andThen_ok, Sem.run_pure, Option.isSome, Bool.false_eq_true, Bool.and_self]

theorem rd_run (hr : RhoOk φ oc ρ ev) (hh : HR P dyn φ (fun p => h.get p) w) {o : Oper} {p : RdOp} {v : AV} (hc : compOper P dyn oc o = some (.rd p)) (hv : evRd ρ h p = some v) :
    ∃ v', (execOp ev o).run P w = .ok (.value v') w ∧ VR φ v v' := by
  obtain ⟨dst, op, ty, ps, aft, g⟩ := o
  have mp : ∀ {α : Type} {o : Option α} {f : α → COp}, o.map f = some (.rd p) → ∃ a, o = some a ∧ f a = .rd p := by
    intro α o f h; simpa [Option.map_eq_some_iff] using h
  cases op with
  | load t a =>
    simp only [compOper] at hc
    split at hc
    · rename_i s gg c hs hg h1
      cases hc
      simp only [evRd] at hv
      split at hv
      · rename_i n off h3
        obtain ⟨v', e1, e2⟩ := ld_run hh hs hg (hr.one h1 h3) hv
        exact ⟨v', by simp only [execOp]; exact run_value e1, e2⟩
      · cases hv
    · cases hc
  | lookup t m k ok =>
    simp only [compOper] at hc
    split at hc
    · rename_i kt et cm ck hu h1 h2
      split at hc
      · rename_i e z he hz
        cases hc
        obtain ⟨v', e1, e2⟩ := rd_lookup hr hh hu h1 h2 he hz hv
        exact ⟨v', by simp only [execOp]; exact run_value e1, e2⟩
      · cases hc
    · cases hc
  | entry it =>
    obtain ⟨c, h1, h2⟩ := mp hc; cases h2
    simp only [evRd] at hv
    split at hv
    · rename_i n h3
      split at hv
      · rename_i m since seen last hn
        split at hv
        · rename_i es clk x seen' hm
          rcases cond_eq_true hv with ⟨h4, hv2⟩ | ⟨_, hv⟩
          · rw [beq_iff] at h4
            have h4 : clk = last := by simpa using h4
            clear hv
            subst h4
            obtain ⟨L, hL, hx⟩ := (hr.one h1 h3).inv_p
            obtain ⟨L', ob, i1, i2, i3⟩ := hh.blk n _ hn
            rw [hL] at i1; cases i1
            cases i3 with
            | it _ _ _ _ Lm hLm hbase =>
              obtain ⟨es', hmr, hb⟩ := map_blk hh hm hLm
              have key : ∀ {es : List (AV × AV × Nat)} {es' : List MapEntry}, MRs φ es es' → each none (fun (e : AV × AV × Nat) r => cond (Nat.beq e.2.2 x) (some (AV.tu [e.1, e.2.1])) r) es = some v →
                  ∃ k' v', es'.find? (·.born == x) = some ⟨k', v', x⟩ ∧ VR φ v (.tuple #[k', v']) := by
                intro es
                induction es with
                | nil => intro es' _ h; cases h
                | cons e es ih =>
                  intro es' hm h
                  cases hm with
                  | cons hk hv1 ht =>
                    rename_i k v1 n' k' v1' vs'
                    change cond (Nat.beq n' x) (some (AV.tu [k, v1])) _ = some v at h
                    rcases cond_eq_true h with ⟨h5, h6⟩ | ⟨h5, h6⟩
                    · cases h6
                      rw [beq_iff] at h5
                      have h5 : n' = x := by simpa using h5
                      subst h5
                      exact ⟨k', v1', by simp, .tu _ _ (.cons hk (.cons hv1 .nil))⟩
                    · rw [beq_iff] at h5
                      have h5 : ¬ n' = x := by simpa using h5
                      obtain ⟨a, b, h7, h8⟩ := ih ht h6
                      exact ⟨a, b, by simp [h5, h7], h8⟩
              obtain ⟨k', v', h7, h8⟩ := key hmr hv2
              refine ⟨.tuple #[k', v'], ?_, h8⟩
              simp only [execOp]
              refine run_value ?_
              have hgo : (getObj L.b).run P w = .ok (.mapIter (some Lm.b) since ⟨(x :: seen').reverse⟩ clk) w := by simp [getObj, Sem.run, i2]
              simp only [Instr.entry, hx, hbase]
              simp [hgo, run_getObj_map hb, h7]
          · cases hv
        · cases hv
      · cases hv
    · cases hv
  | convert a b x =>
    simp only [compOper] at hc
    split at hc
    · rename_i c h1
      split at hc
      · cases hc
      · cases hc
      · rename_i e hu1 hu2
        split at hc
        · rename_i he
          cases hc
          have hconv : ∀ {o : Option Addr} {l c : Nat} {ns : List Nat}, ev x = .slice o l c → (∀ y ∈ ns, y < 256) → (match o with | none => ns = [] | some a => (loadCells a l).run P w = .ok ⟨ns.map (fun (n : Nat) => Value.int .u8 (n : Int))⟩ w) →
              ∃ v', (Go.convert a b (ev x)).run P w = .ok v' w ∧ VR φ (.s ns) v' := by
            intro o l c ns he hns hl
            rw [he, run_convert_bytes_string w a b e o l c hu1 (by assumption) hu2]
            cases o with
            | none => cases hl; exact ⟨.string (strOf []), rfl, .s _ (by simp)⟩
            | some ad =>
              have := run_bytesToString (P := P) w ad l c (ns.map fun (n : Nat) => (n : Int)) (by rw [List.map_map]; exact hl)
              refine ⟨_, this, ?_⟩
              rw [foldl_push]
              exact .s _ hns
          have two : ∀ {n : Pos} {off l c : Nat} {L : Loc}, φ n = some L → ev x = .slice (some ⟨L.b, L.base + off, none⟩) l c → (match cel h n off l with | some l => (match bytesOf l with | some l => some (AV.s l) | none => none) | none => none) = some v →
              ∃ v', (Go.convert a b (ev x)).run P w = .ok v' w ∧ VR φ v v' := by
            intro n off l c L hL he hv
            split at hv
            · rename_i r hr'
              split at hv
              · rename_i ns hns
                cases hv
                obtain ⟨vs, e1, e2, e3⟩ := cel_run (P := P) hh hr' hL
                obtain ⟨rfl, e4⟩ := bytesOf_run hns e1
                exact hconv he e4 e2
              · cases hv
            · cases hv
          simp only [evRd] at hv
          have fin : ∃ v', (Go.convert a b (ev x)).run P w = .ok v' w ∧ VR φ v v' := by
            cases h3 : ρ c with
            | none => rw [h3] at hv; cases hv
            | some u =>
              rw [h3] at hv
              have hx := hr.one h1 h3
              generalize hvx : ev x = vx at hx
              cases hx with
              | sz => cases hv; rw [← hvx]; exact hconv (ns := []) hvx (by simp) rfl
              | se n ad c => cases hv; rw [← hvx]; exact hconv (ns := []) hvx (by simp) (by simp [loadCells, loadCellsFrom])
              | sl n off l c L hL => rw [← hvx]; exact two hL hvx hv
              | su n off l ez L c hL hc hl he => rw [← hvx]; exact two hL hvx hv
              | _ => cases hv
          obtain ⟨v', e1, e2⟩ := fin
          exact ⟨v', by simp only [execOp]; exact run_value e1, e2⟩
        · cases hc
      · split at hc <;> cases hc
      · cases hc
    · cases hc
  | call c =>
    simp only [compOper] at hc
    obtain ⟨callee, args, tys⟩ := c
    cases callee with
    | value f => simp only [compCall] at hc; split at hc <;> cases hc
    | invoke r n => simp only [compCall] at hc; split at hc <;> cases hc
    | builtin b =>
      simp only [compCall] at hc
      split at hc
      all_goals first
        | (cases hc; done)
        | (split at hc <;> first | (cases hc; done) | (rcases cond_eq_true hc with ⟨_, hc⟩ | ⟨_, hc⟩ <;> cases hc; done))
        | skip
      rename_i kt et x ht hm
      cases hc
      obtain ⟨t, rfl, hu⟩ : ∃ t, tys = #[t] ∧ P.underlying t = some (.map kt et) := by
        obtain ⟨l⟩ := tys
        cases l with
        | nil => simp at ht
        | cons t l =>
          cases l with
          | nil => simp at ht; exact ⟨t, rfl, ht⟩
          | cons _ _ => simp at ht
      obtain ⟨o, rfl, ho⟩ : ∃ o, args = #[o] ∧ oc o = some x := by
        obtain ⟨l⟩ := args
        cases l with
        | nil => simp [mapO] at hm
        | cons o l =>
          simp only [mapO] at hm
          cases h1 : oc o with
          | none => rw [h1] at hm; cases hm
          | some c =>
            rw [h1] at hm
            cases l with
            | nil => simp [mapO] at hm; subst hm; exact ⟨o, rfl, h1⟩
            | cons o2 l =>
              simp only [mapO] at hm
              cases h2 : oc o2 with
              | none => rw [h2] at hm; cases hm
              | some c2 =>
                rw [h2] at hm
                cases h3 : mapO oc l with
                | none => rw [h3] at hm; cases hm
                | some r => rw [h3] at hm; cases hm
      simp only [evRd] at hv
      split at hv
      · rename_i h3
        cases hv
        have hx := hr.one ho h3
        have hx : ev o = .map none := by generalize ev o = vo at hx; cases hx; rfl
        exact ⟨.int .i64 0, by simp [execOp, resolve, invoke, Go.builtin, Builtin.len_, run_underlying hu, hx, goInt], .i _ _⟩
      · rename_i n h3
        split at hv
        · rename_i es clk hn
          cases hv
          obtain ⟨L, hL, hx⟩ := (hr.one ho h3).inv_m
          obtain ⟨es', hmr, hb⟩ := map_blk hh hn hL
          have hlen := hmr.length
          rw [len_eq, hlen]
          exact ⟨.int .i64 (es'.length : Int), by simp [execOp, resolve, invoke, Go.builtin, Builtin.len_, run_underlying hu, hx, run_getObj_map hb, goInt], .i _ _⟩
        · cases hv
      · cases hv
  | binOp op t x y yt =>
    simp only [compOper] at hc
    cases hx : oc x with
    | none => rw [hx] at hc; cases hc
    | some a =>
      cases hy : oc y with
      | none => rw [hx, hy] at hc; cases hc
      | some b =>
        rw [hx, hy] at hc
        simp only at hc
        have key : ∀ (ng : Bool), (op = .eql ∧ ng = false ∨ op = .neq ∧ ng = true) → ∀ e s, P.underlying t = some (.pointer e) → szOf P e = some s → s ≠ 0 → p = .pe ng a b →
            ∃ v', (do eqGuard op t x y (ev x) (ev y); Go.binOp op t (ev x) (ev y) : Sem Value).run P w = .ok v' w ∧ VR φ v v' := by
          intro ng hop e s hu hs h0 hp
          subst hp
          have fin : ∀ {p1 p2 : Option Addr} {r : Bool}, ev x = .pointer p1 → ev y = .pointer p2 → (Op.equal t (.pointer p1) (.pointer p2)).run P w = .ok r w → v = .b (xor ng r) →
              ∃ v', (do eqGuard op t x y (ev x) (ev y); Go.binOp op t (ev x) (ev y) : Sem Value).run P w = .ok v' w ∧ VR φ v v' := by
            intro p1 p2 r e1 e2 e3 e4
            subst e4
            rw [e1, e2]
            have hg := eqGuard_plain (P := P) (w := w) op t x y (a := .pointer p1) (b := .pointer p2) (by simp) (by simp)
            rcases hop with ⟨rfl, rfl⟩ | ⟨rfl, rfl⟩
            · refine ⟨.bool r, ?_, by simpa using VR.b r⟩
              simp only [Sem.run_bind, hg, Result.andThen_ok, Go.binOp, e3, Sem.run_pure]
            · refine ⟨.bool (!r), ?_, by simpa using VR.b (!r)⟩
              simp only [Sem.run_bind, hg, Result.andThen_ok, Go.binOp, e3, Sem.run_pure]
          have eqp : ∀ (p1 p2 : Option Addr), (Op.equal t (.pointer p1) (.pointer p2)).run P w = (match p1, p2 with
              | none, b => .ok b.isNone w
              | some _, none => .ok false w
              | some a, some b => (sameAddr a b).run P w) := by
            intro p1 p2
            change (Op.equalIn (9999 + 1) t _ _).run P w = _
            rw [Op.equalIn]
            simp only [Sem.run_bind, run_underlying hu, Result.andThen_ok]
            cases p1 <;> cases p2 <;> simp [run_size hs, h0]
          simp only [evRd] at hv
          split at hv
          · rename_i h3 h4
            cases hv
            have h5 : ev x = .pointer none := by have := hr.one hx h3; generalize ev x = vx at this; cases this; rfl
            have h6 : ev y = .pointer none := by have := hr.one hy h4; generalize ev y = vx at this; cases this; rfl
            exact fin h5 h6 (eqp none none) rfl
          · rename_i h3 h4
            cases hv
            have h5 : ev x = .pointer none := by have := hr.one hx h3; generalize ev x = vx at this; cases this; rfl
            obtain ⟨L, _, h6⟩ := (hr.one hy h4).inv_p
            exact fin h5 h6 (eqp _ _) rfl
          · rename_i h3 h4
            cases hv
            obtain ⟨L, _, h5⟩ := (hr.one hx h3).inv_p
            have h6 : ev y = .pointer none := by have := hr.one hy h4; generalize ev y = vx at this; cases this; rfl
            exact fin h5 h6 (eqp _ _) rfl
          · rename_i n o n' o' h3 h4
            obtain ⟨L, hL, h5⟩ := (hr.one hx h3).inv_p
            obtain ⟨L', hL', h6⟩ := (hr.one hy h4).inv_p
            rcases cond_eq_true hv with ⟨hs1, hv2⟩ | ⟨hs1, hv2⟩
            · clear hv
              have := Pos.same_iff hs1
              subst this
              rw [hL] at hL'; cases hL'
              cases hv2
              refine fin (r := decide (L.base + o = L.base + o')) h5 h6 ?_ (by rw [beq_iff]; congr 2; simp)
              rw [eqp]
              exact run_sameAddr_same (P := P) L.b (L.base + o) (L.base + o') w
            · clear hv
              split at hv2
              · rename_i l1 b1 l2 b2 hn1 hn2
                cases hv2
                have hne : n ≠ n' := fun e => by subst e; rw [Pos.same_refl] at hs1; cases hs1
                refine fin (r := false) h5 h6 ?_ rfl
                rw [eqp]
                obtain ⟨L1, ob1, a1, a2, a3⟩ := hh.blk n _ hn1
                obtain ⟨L2, ob2, b1', b2', b3⟩ := hh.blk n' _ hn2
                have hbb : L.b ≠ L'.b := fun e => hne (hh.inj n n' _ _ L L' hn1 hn2 hL hL' e)
                rw [hL] at a1; cases a1
                rw [hL'] at b1'; cases b1'
                cases a3
                cases b3
                exact run_sameAddr_other hbb a2 b2'
              · cases hv2
          · cases hv
        have both : ∀ (ng : Bool), (op = .eql ∧ ng = false ∨ op = .neq ∧ ng = true) → (match P.underlying t with
        | some (.int _) | some .string => some (COp.pu (.bi op a b))
        | some .bool => some (.pu (.eq ng .bo a b))
        | some (.pointer e) => cond (isNil x || isNil y) (some (.pu (.eq ng .pn a b))) (match szOf P e with | some s => cond (Nat.beq s 0) none (some (.rd (.pe ng a b))) | none => none)
        | some (.slice _) => some (.pu (.eq ng .sl a b))
        | some (.map _ _) => some (.pu (.eq ng .mp a b))
        | some (.func _ _ _) => some (.pu (.eq ng .fu a b))
        | some (.interface _) => cond (isNil x || isNil y) (some (.pu (.eq ng .fc a b))) none
        | some (.struct _) | some (.array _ _) => cond (P.eqGuardType P.depth t) none (match eshOf P 12 t with | some e => some (.pu (.eq ng (.sh e) a b)) | none => none)
        | _ => none) = some (.rd p) → ∃ v', (execOp ev ⟨dst, .binOp op t x y yt, ty, ps, aft, g⟩).run P w = .ok (.value v') w ∧ VR φ v v' := by
          intro ng hop hc
          cases hu : P.underlying t with
          | none => rw [hu] at hc; cases hc
          | some d =>
            rw [hu] at hc
            cases d with
            | pointer e =>
              rcases cond_eq_true hc with ⟨_, hc⟩ | ⟨_, hc⟩
              · cases hc
              · split at hc
                · rename_i s hs
                  rcases cond_eq_true hc with ⟨_, hc⟩ | ⟨h0, hc⟩
                  · cases hc
                  · cases hc
                    rw [beq_iff] at h0
                    obtain ⟨v', e1, e2⟩ := key ng hop e s hu hs (by simpa using h0) rfl
                    exact ⟨v', by simp only [execOp]; exact run_value e1, e2⟩
                · cases hc
            | interface m => rcases cond_eq_true hc with ⟨_, hc⟩ | ⟨_, hc⟩ <;> cases hc
            | struct fs =>
              rcases cond_eq_true hc with ⟨_, hc⟩ | ⟨_, hc⟩
              · cases hc
              · split at hc <;> cases hc
            | array n el =>
              rcases cond_eq_true hc with ⟨_, hc⟩ | ⟨_, hc⟩
              · cases hc
              · split at hc <;> cases hc
            | _ => cases hc
        cases op
        case eql => exact both false (.inl ⟨rfl, rfl⟩) hc
        case neq => exact both true (.inr ⟨rfl, rfl⟩) hc
        all_goals cases hc
  | makeMap t n =>
    cases n with
    | none => cases hc
    | some n => cases hc
  | makeFunc c a b =>
    cases c with
    | func f =>
      simp only [compOper] at hc
      split at hc
      · rcases cond_eq_true hc with ⟨_, hc⟩ | ⟨_, hc⟩ <;> cases hc
      · cases hc
    | _ => cases hc
  | next it s => obtain ⟨_, _, h⟩ := mp hc; cases s <;> cases h
  | _ =>
    exfalso
    simp only [compOper] at hc
    repeat' first
      | (cases hc; done)
      | (obtain ⟨_, _, h⟩ := mp hc; cases h; done)
      | (split at hc)
      | (rcases cond_eq_true hc with ⟨_, hc⟩ | ⟨_, hc⟩)
end
end Go.Ev
namespace Go.Ev
open Go

theorem arrGet (a : Array Value) (i : Nat) : a[i]! = a.toList[i]! := by
  obtain ⟨l⟩ := a
  simp
theorem ones_iff : ∀ (l : List AV), ones l = true ↔ ∀ v ∈ l, oneC v = true
  | [] => by simp [ones, each]
  | x :: l => by
    change (oneC x && ones l) = true ↔ _
    simp [ones_iff l]
theorem zer_zero (z : List AV) : zer z 0 = [] := rfl
theorem zer_succ (z : List AV) (n : Nat) : zer z (n + 1) = z ++ zer z n := by
  change app z (zer z n) = _
  rw [app_eq]
theorem zer_run {φ : Phi} {z : List AV} {vs : List Value} (hz : VRs φ z vs) : ∀ (n : Nat), VRs φ (zer z n) ((List.range (n * vs.length)).map fun i => vs[i % vs.length]!)
  | 0 => by simp only [Nat.zero_mul, List.range_zero, List.map_nil]; exact .nil
  | n + 1 => by
    rw [zer_succ, show (n + 1) * vs.length = vs.length + n * vs.length by rw [Nat.succ_mul]; omega, List.range_add, List.map_append, List.map_map]
    refine VRs.append ?_ ?_
    · have : (List.range vs.length).map (fun i => vs[i % vs.length]!) = vs := by
        apply List.ext_getElem
        · simp
        · intro i h1 h2
          simp [Nat.mod_eq_of_lt h2, h2]
      rw [this]
      exact hz
    · have : ((fun i => vs[i % vs.length]!) ∘ fun x => vs.length + x) = fun i => vs[i % vs.length]! := by
        funext i
        simp [Nat.add_mod_left]
      rw [this]
      exact zer_run hz n
theorem zer_len (z : List AV) : ∀ (n : Nat), (zer z n).length = n * z.length
  | 0 => by simp [zer_zero]
  | n + 1 => by rw [zer_succ, List.length_append, zer_len z n, Nat.succ_mul]; omega
theorem zer_mem {z : List AV} : ∀ {n : Nat} {v : AV}, v ∈ zer z n → v ∈ z
  | 0, v, h => by simp [zer_zero] at h
  | n + 1, v, h => by
    rw [zer_succ, List.mem_append] at h
    rcases h with h | h
    · exact h
    · exact zer_mem h

theorem each_bytes (l : List Nat) : each [] (fun (b : Nat) r => AV.i .u8 (.ofNat b) :: r) l = l.map fun b => .i .u8 (.ofNat b) := by
  induction l with
  | nil => rfl
  | cons b l ih => change AV.i .u8 (.ofNat b) :: each [] _ l = _; rw [ih]; rfl

/-- a new block, whatever else is drawn. -/
theorem HR.fresh {P : Program} {dyn : List TypeId} {φ : Phi} {h : TT AO} {w w' : World} (hr : HR P dyn φ (fun p => h.get p) w) {k : Pos} (hk : φ k = none) (o : AO) (ob : Obj) (base ext : Nat)
    (hsz : w'.heap.size = w.heap.size + 1) (hold : ∀ b, b < w.heap.size → w'.heap[b]? = w.heap[b]?) (hnew : w'.heap[w.heap.size]? = some ob)
    (hos : w'.os = w.os) (hout : w'.output = w.output) (htape : w'.tape = w.tape)
    (ho : OR P dyn (upL φ k ⟨w.heap.size, base, ext⟩) ⟨w.heap.size, base, ext⟩ o ob) :
    HR P dyn (upL φ k ⟨w.heap.size, base, ext⟩) (fun p => (h.put k (some o)).get p) w' ∧
      Ext φ (fun p => h.get p) w (upL φ k ⟨w.heap.size, base, ext⟩) (fun p => (h.put k (some o)).get p) w' := by
  have hlt : ∀ n x L, h.get n = some x → φ n = some L → L.b < w.heap.size := fun n x L hn hL => by
    obtain ⟨L', b, h1, h2, _⟩ := hr.blk n x hn
    rw [hL] at h1; cases h1
    exact (Array.getElem?_eq_some_iff.1 h2).1
  constructor
  · refine hr.step (upL_le _ hk) k o ⟨w.heap.size, base, ext⟩ ob (fun n x hne hn => ?_) ?_ (upL_same _ _ _) hnew ho (fun n x L hne hn hL => ?_)
    · simpa [get_put, hne] using hn
    · simp [get_put]
    · simp only [get_put, hne, if_false] at hn
      have := hlt n x L hn hL
      exact ⟨Nat.ne_of_lt this, hold _ this⟩
  · refine ⟨by omega, hos, hout, htape, fun b hb _ => hold b hb, fun b hb hi => ?_⟩
    · obtain ⟨n, x, L, hn, hL, rfl⟩ := hi
      by_cases e : n = k
      · subst e
        rw [upL_same] at hL; cases hL
        exact absurd hb (Nat.lt_irrefl _)
      · rw [upL_other _ _ e] at hL
        simp only [get_put, e, if_false] at hn
        exact ⟨n, x, L, hn, hL, rfl⟩

theorem OR.cells {P : Program} {dyn : List TypeId} {φ φ' : Phi} {l : List AV} {vs : List Value} (hv : VRs φ l vs) (hle : φ.le φ') (ho : ones l = true) (b : Nat) (t : TypeId) :
    OR P dyn φ' ⟨b, 0, vs.length⟩ (.c l false) (.cells ⟨vs⟩ t (0, 0)) := by
  refine .c l false ⟨vs⟩ t (by simp) (by rw [hv.length]; exact Nat.le_refl _) (fun _ => hv.length) (fun i v hi => ?_)
  obtain ⟨v', h1, h2⟩ := hv.get i v hi
  exact ⟨(ones_iff l).1 ho v (List.mem_of_getElem? hi), v', by simpa using h1, h2.mono hle⟩

section
variable {P : Program} {dyn : List TypeId} {φ : Phi} {oc : Operand → Option CV} {ρ : Rho} {ev : Operand → Value} {h : TT AO} {w : World}

def AlOk (P : Program) (dyn : List TypeId) (φ : Phi) (h : TT AO) (w : World) (k : Pos) (b : AO) (v : AV) (s : Sem Value) : Prop :=
  ∃ v' w' L, s.run P w = .ok v' w' ∧ HR P dyn (upL φ k L) (fun p => (h.put k (some b)).get p) w' ∧ Ext φ (fun p => h.get p) w (upL φ k L) (fun p => (h.put k (some b)).get p) w' ∧ VR (upL φ k L) v v'

theorem alOk_alloc (hh : HR P dyn φ (fun p => h.get p) w) {k : Pos} (hk : φ k = none) {b : AO} {v : AV} {s : Sem Value} {v' : Value} {ob : Obj} (base ext : Nat) (hrun : s.run P w = .ok v' (w.alloc ob))
    (ho : OR P dyn (upL φ k ⟨w.heap.size, base, ext⟩) ⟨w.heap.size, base, ext⟩ b ob) (hv : VR (upL φ k ⟨w.heap.size, base, ext⟩) v v') : AlOk P dyn φ h w k b v s :=
  let ⟨h1, h2⟩ := hh.alloc hk b ob base ext ho
  ⟨v', _, _, hrun, h1, h2, hv⟩

theorem vrPtr (φ : Phi) (k : Pos) (b ext : Nat) : VR (upL φ k ⟨b, 0, ext⟩) (.p k 0) (.pointer (some ⟨b, 0, none⟩)) := by
  have := VR.p (φ := upL φ k ⟨b, 0, ext⟩) k 0 ⟨b, 0, ext⟩ (upL_same _ _ _)
  simpa using this
theorem vrSl (φ : Phi) (k : Pos) (b ext n c : Nat) : VR (upL φ k ⟨b, 0, ext⟩) (.sl k 0 n c) (.slice (some ⟨b, 0, none⟩) n c) := by
  have := VR.sl (φ := upL φ k ⟨b, 0, ext⟩) k 0 n c ⟨b, 0, ext⟩ (upL_same _ _ _)
  simpa using this

theorem bl_parts (hr : RhoOk φ oc ρ ev) (esz : Nat) : ∀ (ps : List (Nat × Operand)) (l : List (Nat × CV)) (vs : List AV),
    mapO (fun (p : Nat × Operand) => match oc p.2 with | some x => some (p.1, x) | none => none) ps = some l → rvs ρ (each [] (fun (p : Nat × CV) r => p.2 :: r) l) = some vs →
    Parts φ (fun i => some (i * esz, esz)) (each (fun _ => []) (fun (p : Nat × CV) r vs => match vs with | v :: vs => (p.1 * esz, esz, v) :: r vs | [] => []) l vs) (ps.map fun p => (p.1, ev p.2))
  | [], l, vs, h1, h2 => by
    simp [mapO] at h1; subst h1
    exact .nil
  | p :: ps, l, vs, h1, h2 => by
    simp only [mapO] at h1
    cases hq : oc p.2 with
    | none => rw [hq] at h1; cases h1
    | some c =>
      rw [hq] at h1
      simp only at h1
      cases hm : mapO (fun (p : Nat × Operand) => match oc p.2 with | some x => some (p.1, x) | none => none) ps with
      | none => rw [hm] at h1; cases h1
      | some r =>
        rw [hm] at h1
        cases h1
        change (match ρ c with | none => none | some v => match rvs ρ (each [] (fun (p : Nat × CV) r => p.2 :: r) r) with | none => none | some l => some (v :: l)) = some vs at h2
        cases hv : ρ c with
        | none => rw [hv] at h2; cases h2
        | some v =>
          rw [hv] at h2
          cases hl : rvs ρ (each [] (fun (p : Nat × CV) r => p.2 :: r) r) with
          | none => rw [hl] at h2; cases h2
          | some l' =>
            rw [hl] at h2
            cases h2
            exact .cons rfl (hr.one hq hv) (bl_parts hr esz ps r l' hm hl)


theorem zeOf_inv {t : TypeId} {z : AV} (h : zeOf P t = some z) : ∃ i z', P.info? t = some i ∧ i.zero = some z' ∧ VR φ z z' := by
  unfold zeOf at h
  cases hi : P.info? t with
  | none => rw [hi] at h; cases h
  | some i =>
    rw [hi] at h
    simp only at h
    cases hz : i.zero with
    | none => rw [hz] at h; cases h
    | some v =>
      rw [hz] at h
      exact ⟨i, v, rfl, hz, const_VR 3 v z h⟩

theorem al_buildSlice (hr : RhoOk φ oc ρ ev) (hh : HR P dyn φ (fun p => h.get p) w) {t e : TypeId} {n s : Nat} {ps : Array (Nat × Operand)} {z : AV} {l : List (Nat × CV)} {k : Pos} {b : AO} {v : AV} (hk : φ k = none)
    (hu : P.underlying t = some (.slice e)) (hs : szOf P e = some s) (hz : zeOf P e = some z) (hl : mapO (fun (p : Nat × Operand) => match oc p.2 with | some x => some (p.1, x) | none => none) ps.toList = some l)
    (_hs0 : s ≠ 0) (hle2 : n * s ≤ 65536) (hsz : (cells z).length = s) (hv : evAl ρ k (.bl s n (cells z) l) = some (b, v)) : AlOk P dyn φ h w k b v (Instr.buildSlice t n (ps.map fun (i, x) => (i, ev x))) := by
  have hle : ∀ L, φ.le (upL φ k L) := fun L => upL_le L hk
  obtain ⟨i, z', e0, e1, e2⟩ := zeOf_inv (φ := φ) hz
  have his : i.size = s := by simpa [szOf, e0] using hs
  simp only [evAl] at hv
  split at hv
  · rename_i vs h3
    split at hv
    · rename_i c hf
      rcases cond_eq_true hv with ⟨ho, hv⟩ | ⟨_, hv⟩
      · cases hv
        have hzc := e2.cells
        have hzl : z'.cells.toList.length = s := by rw [← hzc.length]; exact hsz
        have hsz' : z'.cells.size = s := by simpa using hzl
        have hzer := zer_run hzc n
        rw [hzl] at hzer
        have hmap : (ps.map fun (x : Nat × Operand) => (x.1, ev x.2)).toList = ps.toList.map fun p => (p.1, ev p.2) := by simp
        obtain ⟨arr, h4, h5⟩ := fil_run (bl_parts hr s ps.toList l vs hl h3) (arr := (Array.range (n * s)).map (z'.cells[· % z'.cells.size]!)) hf (by
          have : ((Array.range (n * s)).map (z'.cells[· % z'.cells.size]!)).toList = (List.range (n * s)).map fun i => z'.cells.toList[i % s]! := by
            rw [hsz', Array.toList_map, Array.toList_range]
            exact List.map_congr_left fun i _ => arrGet z'.cells _
          rw [this]
          exact hzer)
        refine alOk_alloc hh hk (ob := .cells arr e) 0 arr.toList.length ?_ (OR.cells h5 (hle _) ho _ _) (vrSl _ _ _ _ _ _)
        by_cases hn0 : n * s = 0
        · rw [hn0] at h4
          have e3 : ∀ f : Nat → Value, (Array.range 0).map f = #[] := fun f => by simp [Array.range_zero']
          rw [e3] at h4
          unfold Instr.buildSlice
          simp only [Sem.run_bind, run_underlying hu, Result.andThen_ok, run_size hs, hn0, hmap, e3]
          simp [h4, newRow]
        · refine run_buildSlice w t e n _ arr i z' hu e0 e1 (by rw [his]; omega) (by rw [his]; exact hn0) ?_
          rw [his, hmap]
          exact h4
      · cases hv
    · cases hv
  · cases hv

theorem al_makeSlice (hr : RhoOk φ oc ρ ev) (hh : HR P dyn φ (fun p => h.get p) w) {t e : TypeId} {i : TypeInfo} {on oc' : Operand} {z : AV} {cn cc : CV} {k : Pos} {b : AO} {v : AV} (hk : φ k = none)
    (hu : P.underlying t = some (.slice e)) (hi : P.info? e = some i) (hz : zeOf P e = some z) (h1 : oc on = some cn) (h2 : oc oc' = some cc)
    (hsz : (cells z).length = i.size) (hby : i.bytes ≠ 0) (ho : ones (cells z) = true) (hv : evAl ρ k (.mk i.size i.bytes (cells z) cn cc) = some (b, v)) : AlOk P dyn φ h w k b v (Instr.makeSlice t (ev on) (ev oc')) := by
  have hle : ∀ L, φ.le (upL φ k L) := fun L => upL_le L hk
  obtain ⟨i', z', e0, e1, e2⟩ := zeOf_inv (φ := φ) hz
  rw [hi] at e0; cases e0
  simp only [evAl] at hv
  split at hv
  · rename_i x y h3 h4
    split at hv
    · rename_i n c hn hc
      rcases cond_eq_true hv with ⟨hb, hv⟩ | ⟨_, hv⟩
      · cases hv
        simp only [Bool.and_eq_true] at hb
        have hb1 := hb.1; have hb2 := hb.2
        rw [ble_iff] at hb1 hb2
        have hb1 : n ≤ c := by simpa using hb1
        have hb2 : c * i.bytes ≤ 1048576 := by simpa using hb2
        have hnat : ∀ {x : AV} {n : Nat} {x' : Value}, natOf x = some n → VR φ x x' → ∃ k, x' = .int k (n : Int) := by
          intro x n x' h hx
          cases hx with
          | i k m =>
            cases m with
            | ofNat m => cases h; exact ⟨k, rfl⟩
            | negSucc m => cases h
          | _ => cases h
        obtain ⟨k1, hx⟩ := hnat hn (hr.one h1 h3)
        obtain ⟨k2, hy⟩ := hnat hc (hr.one h2 h4)
        have hzc := e2.cells
        have hzl : z'.cells.toList.length = i.size := by rw [← hzc.length]; exact hsz
        have hsz' : z'.cells.size = i.size := by simpa using hzl
        have h63 : c ≤ 1048576 := Nat.le_trans (Nat.le_mul_of_pos_right c (Nat.pos_of_ne_zero hby)) hb2
        · have hrun := run_make (P := P) w t e i z' hu hi e1 k1 k2 (n : Int) (c : Int) (by omega) (by omega) (by
            have : ((i.bytes * c : Nat) : Int) ≤ 281474976710656 := by rw [Nat.mul_comm]; omega
            rwa [Int.natCast_mul] at this) (by omega)
          simp only [Int.toNat_natCast] at hrun
          rw [← hx, ← hy] at hrun
          have hzer := zer_run hzc c
          rw [hzl] at hzer
          have hmc : madeCells z'.cells (c * i.size) = ⟨(List.range (c * i.size)).map fun j => z'.cells.toList[j % i.size]!⟩ := by
            apply Array.ext'
            rw [madeCells, hsz', Array.toList_map, Array.toList_range]
            exact List.map_congr_left fun i _ => arrGet z'.cells _
          rw [hmc] at hrun
          refine alOk_alloc hh hk 0 _ hrun (OR.cells hzer (hle _) ?_ _ _) (vrSl _ _ _ _ _ _)
          rw [ones_iff]
          intro v hv
          exact (ones_iff _).1 ho v (zer_mem hv)
      · cases hv
    · cases hv
  · cases hv

theorem al_string (hr : RhoOk φ oc ρ ev) (hh : HR P dyn φ (fun p => h.get p) w) {a t e : TypeId} {x : Operand} {c : CV} {k : Pos} {b : AO} {v : AV} (hk : φ k = none)
    (h1 : oc x = some c) (hs : P.underlying a = some .string) (hd : P.underlying t = some (.slice e)) (he : P.underlying e = some (.int .u8)) (hv : evAl ρ k (.sb c) = some (b, v)) : AlOk P dyn φ h w k b v (Go.convert a t (ev x)) := by
  simp only [evAl] at hv
  split at hv
  · rename_i l h3
    cases hv
    obtain ⟨hx, hl⟩ := (hr.one h1 h3).inv_s
    have hrun := Lib.run_convert_string_bytes (P := P) w a t e (strOf l) hs hd he
    rw [← hx] at hrun
    have hss : (strOf l).size = l.length := by simp [strOf, ByteArray.size]
    have hsize := Lib.bytesWorld_size w e (strOf l)
    have hcells : (Lib.bytesCells w e (strOf l)).size = max l.length (grownCap w l.length 0 e) := by
      simp [Lib.bytesCells, hss]
      have : (strOf l).data.size = l.length := hss
      omega
    have hgc : l.length ≤ grownCap w l.length 0 e := grownCap_ge w _ _ _
    obtain ⟨f1, f2⟩ := hh.fresh (w' := Lib.bytesWorld w e (strOf l)) hk (.cb (each [] (fun (b : Nat) r => .i .u8 (.ofNat b) :: r) l)) _ 0 (grownCap w l.length 0 e) hsize
      (fun b hb => Lib.bytesWorld_at_old w e (strOf l) b hb) (Lib.bytesWorld_at_new w e (strOf l)) rfl rfl rfl (by
        refine .cb _ _ e _ (by rw [hcells]; simp; omega) ?_ ?_
        · rw [each_bytes, List.length_map]; exact hgc
        · intro i v hi
          rw [each_bytes, List.getElem?_map] at hi
          cases hl' : l[i]? with
          | none => rw [hl'] at hi; cases hi
          | some b =>
            rw [hl'] at hi
            cases hi
            refine ⟨rfl, .int .u8 (b : Int), ?_, .i .u8 (b : Int)⟩
            have hb : b < 256 := hl b (List.mem_of_getElem? hl')
            have hi : i < l.length := (List.getElem?_eq_some_iff.1 hl').1
            have := (List.getElem?_eq_some_iff.1 hl').2
            simp only [Lib.bytesCells, strOf]
            rw [Nat.zero_add, Array.getElem?_append]
            simp [hi, this, UInt8.toNat_ofNat', Nat.mod_eq_of_lt hb])
    refine ⟨_, _, _, hrun, f1, f2, ?_⟩
    have := VR.su (φ := upL φ k ⟨w.heap.size, 0, grownCap w l.length 0 e⟩) k 0 l.length 1 ⟨w.heap.size, 0, grownCap w l.length 0 e⟩ (grownCap w l.length 0 e) (upL_same _ _ _) (by simp) hgc (by omega)
    rw [hss, len_eq]
    simpa using this
  · cases hv
theorem al_run (hr : RhoOk φ oc ρ ev) (hh : HR P dyn φ (fun p => h.get p) w) {o : Oper} {p : AlOp} {k : Pos} {b : AO} {v : AV} (hk : φ k = none) (hc : compOper P dyn oc o = some (.al p)) (hv : evAl ρ k p = some (b, v)) :
    ∃ s, (∀ w, (execOp ev o).run P w = (do pure (Next.value (← s)) : Sem Next).run P w) ∧ AlOk P dyn φ h w k b v s := by
  obtain ⟨dst, op, ty, ps, aft, g⟩ := o
  have mp : ∀ {α : Type} {o : Option α} {f : α → COp}, o.map f = some (.al p) → ∃ a, o = some a ∧ f a = .al p := by
    intro α o f h; simpa [Option.map_eq_some_iff] using h
  have hle : ∀ L, φ.le (upL φ k L) := fun L => upL_le L hk
  cases op with
  | alloc t =>
    simp only [compOper] at hc
    split at hc
    · rename_i z hz
      rcases cond_eq_true hc with ⟨ho, hc⟩ | ⟨_, hc⟩
      · cases hc
        cases hv
        obtain ⟨z', e1, e2⟩ := zeOf_run (φ := φ) hz w
        refine ⟨Instr.alloc t true (.tuple #[]), fun _ => rfl, ?_⟩
        refine alOk_alloc hh hk (ob := .cells z'.cells t) 0 z'.cells.toList.length ?_ ?_ (vrPtr _ _ _ _)
        · simp [Instr.alloc, e1, newVar, newRow]
        · exact OR.cells e2.cells (hle _) ho _ _
      · cases hc
    · cases hc
  | box t x =>
    obtain ⟨c, h1, h2⟩ := mp hc; cases h2
    simp only [evAl] at hv
    split at hv
    · rename_i u h3
      rcases cond_eq_true hv with ⟨ho, hv⟩ | ⟨_, hv⟩
      · cases hv
        have e2 := hr.one h1 h3
        refine ⟨Instr.box t (ev x), fun _ => rfl, ?_⟩
        refine alOk_alloc hh hk (ob := .cells (ev x).cells t) 0 (ev x).cells.toList.length ?_ ?_ (vrPtr _ _ _ _)
        · simp [Instr.box, newVar, newRow]
        · exact OR.cells e2.cells (hle _) ho _ _
      · cases hv
    · cases hv
  | buildSlice t n ps =>
    simp only [compOper] at hc
    split at hc
    · rename_i e hu
      split at hc
      · rename_i s z l hs hz hl
        rcases cond_eq_true hc with ⟨_, hc⟩ | ⟨hcond, hc⟩
        · cases hc
        · cases hc
          simp only [Bool.or_eq_false_iff, Bool.not_eq_false', len_eq] at hcond
          obtain ⟨⟨hs0, hle2⟩, hsz⟩ := hcond
          rw [beq_iff] at hs0 hsz
          rw [ble_iff] at hle2
          exact ⟨_, fun _ => rfl, al_buildSlice hr hh hk hu hs hz hl (by simpa using hs0) (by simpa using hle2) (by simpa using hsz) hv⟩
      · cases hc
    · cases hc
  | makeSlice t n c =>
    simp only [compOper] at hc
    split at hc
    · rename_i e hu
      split at hc
      · rename_i i z cn cc hi hz h1 h2
        rcases cond_eq_true hc with ⟨_, hc⟩ | ⟨hcond, hc⟩
        · cases hc
        · cases hc
          simp only [Bool.or_eq_false_iff, Bool.not_eq_false', len_eq] at hcond
          obtain ⟨⟨⟨_, hby⟩, hsz⟩, ho⟩ := hcond
          rw [beq_iff] at hsz hby
          exact ⟨_, fun _ => rfl, al_makeSlice hr hh hk hu hi hz h1 h2 (by simpa using hsz) (by simpa using hby) ho hv⟩
      · cases hc
    · cases hc
  | convert a t x =>
    simp only [compOper] at hc
    split at hc
    · rename_i c h1
      split at hc
      · cases hc
      · cases hc
      · split at hc <;> cases hc
      · rename_i e hu1 hu2
        split at hc
        · rename_i he
          cases hc
          exact ⟨_, fun _ => rfl, al_string hr hh hk h1 hu1 hu2 he hv⟩
        · cases hc
      · cases hc
    · cases hc
  | makeMap t r =>
    cases r with
    | some r => cases hc
    | none =>
      cases hc
      cases hv
      refine ⟨Instr.makeMap t none, fun _ => rfl, ?_⟩
      refine alOk_alloc hh hk (v' := .map (some w.heap.size)) (ob := .map #[] 0) 0 0 ?_ (.mp [] 0 [] .nil) ?_
      · simp [Instr.makeMap]
      · exact .m k _ (upL_same _ _ _)
  | makeFunc c a b =>
    cases c with
    | func f =>
      simp only [compOper] at hc
      split at hc
      · rcases cond_eq_true hc with ⟨_, hc⟩ | ⟨_, hc⟩ <;> cases hc
      · cases hc
    | _ => cases hc
  | next it s => obtain ⟨_, _, h⟩ := mp hc; cases s <;> cases h
  | binOp op t x y yt =>
    simp only [compOper] at hc
    split at hc
    · split at hc
      all_goals first
        | (cases hc; done)
        | (repeat' first
            | (cases hc; done)
            | (obtain ⟨_, _, h⟩ := mp hc; cases h; done)
            | (split at hc)
            | (rcases cond_eq_true hc with ⟨_, hc⟩ | ⟨_, hc⟩))
    · cases hc
  | call c =>
    obtain ⟨callee, args, tys⟩ := c
    simp only [compOper] at hc
    cases callee <;> simp only [compCall] at hc <;> (repeat' first
      | (cases hc; done)
      | (obtain ⟨_, _, h⟩ := mp hc; cases h; done)
      | (split at hc)
      | (rcases cond_eq_true hc with ⟨_, hc⟩ | ⟨_, hc⟩))
  | _ =>
    exfalso
    simp only [compOper] at hc
    repeat' first
      | (cases hc; done)
      | (obtain ⟨_, _, h⟩ := mp hc; cases h; done)
      | (split at hc)
      | (rcases cond_eq_true hc with ⟨_, hc⟩ | ⟨_, hc⟩)
end
end Go.Ev
namespace Go.Ev
open Go

/-- what a step leaves. -/
structure Aft (P : Program) (dyn : List TypeId) (φ : Phi) (h : TT AO) (w : World) (k : Pos) (φ1 : Phi) (h1 : TT AO) (w1 : World) (k1 : Pos) : Prop where
  gr : Grown φ φ1 k k1
  hr : HR P dyn φ1 (fun p => h1.get p) w1
  ex : Ext φ (fun p => h.get p) w φ1 (fun p => h1.get p) w1

def nxv : Next → Option Value
  | .value v => some v
  | .skip => some undef
  | _ => none
/-- an operation that calls nothing: run, and what it leaves. -/
def RunTo (P : Program) (dyn : List TypeId) (φ : Phi) (h : TT AO) (w : World) (k : Pos) (v : AV) (h1 : TT AO) (k1 : Pos) (s : Sem Next) : Prop :=
  ∃ φ1 w1 nx v', s.run P w = .ok nx w1 ∧ nxv nx = some v' ∧ VR φ1 v v' ∧ Aft P dyn φ h w k φ1 h1 w1 k1

section
variable {P : Program} {dyn : List TypeId} {φ : Phi} {h : TT AO} {w : World} {k : Pos}

theorem Aft.refl (hh : HR P dyn φ (fun p => h.get p) w) : Aft P dyn φ h w k φ h w k := ⟨Grown.refl _ _, hh, Ext.refl _ _ _⟩
/-- nothing but the tape moves. -/
theorem Aft.drawn (hh : HR P dyn φ (fun p => h.get p) w) {w1 : World} (h1 : w1.heap = w.heap) (h2 : w1.os = w.os) (h3 : w1.output = w.output) (h4 : w1.tape = w.tape) : Aft P dyn φ h w k φ h w1 k :=
  ⟨Grown.refl _ _, hh.heap_eq fun _ _ _ _ _ => by rw [h1], ⟨by rw [h1]; exact Nat.le_refl _, h2, h3, h4, fun _ _ _ => by rw [h1], fun _ _ h => h⟩⟩
theorem undef_VR (φ : Phi) : VR φ undf undef := .tu [] [] .nil

theorem seg_get {α : Type} (xs ys : List α) (o : Nat) (ho : o + ys.length ≤ xs.length) (i : Nat) :
    (xs.take o ++ ys ++ xs.drop (o + ys.length))[i]? = if i < o then xs[i]? else if i < o + ys.length then ys[i - o]? else xs[i]? := by
  simp only [List.getElem?_append, List.length_append, List.length_take, List.getElem?_take, List.getElem?_drop]
  have e : min o xs.length = o := by omega
  rw [e]
  by_cases h1 : i < o
  · have : i < o + ys.length := by omega
    simp [h1, this]
  · by_cases h2 : i < o + ys.length
    · simp [h1, h2]
    · have : o + ys.length + (i - (o + ys.length)) = i := by omega
      simp [h1, h2, this]

/-- cells written. -/
theorem wrt_run (hh : HR P dyn φ (fun p => h.get p) w) {n : Pos} {off : Nat} {vs : List AV} {h1 : TT AO} (hw : wrt h n off vs = some h1) {L : Loc} (hL : φ n = some L) {vs' : List Value} (hv : VRs φ vs vs') (ho : ones vs = true) :
    ∃ w1, (storeCells ⟨L.b, L.base + off, none⟩ vs').run P w = .ok () w1 ∧ Aft P dyn φ h w k φ h1 w1 k := by
  unfold wrt at hw
  split at hw
  · rename_i l o hn
    split at hw
    · rename_i l' hl'
      cases hw
      obtain ⟨hle, rfl⟩ := over_eq _ _ _ _ hl'
      obtain ⟨L', ob, e1, e2, e3⟩ := hh.blk n _ hn
      rw [hL] at e1; cases e1
      cases e3 with
      | c _ _ arr t hs hlen hopn hc =>
        have hvl := hv.length
        have hrun := run_storeCells_at P L.b (L.base + off) t vs' 0 arr w e2 (by omega) (fun v' hv' => by
          obtain ⟨i, hi⟩ := List.mem_iff_getElem?.1 hv'
          have hi2 : i < vs.length := by rw [hvl]; exact (List.getElem?_eq_some_iff.1 hi).1
          obtain ⟨v'', h2, h3⟩ := hv.get i vs[i] (List.getElem?_eq_getElem hi2)
          rw [hi] at h2; cases h2
          rw [h3.oneCell]
          exact (ones_iff vs).1 ho _ (List.getElem_mem hi2))
        refine ⟨_, hrun, ?_⟩
        have ht := hh.turn (w' := w.setRow L.b (arr.toList.take (L.base + off + 0) ++ vs' ++ arr.toList.drop (L.base + off + 0 + vs'.length)).toArray) hn hL (.c (l.take off ++ vs ++ l.drop (off + vs.length)) o) _ ?_
          (setRow_heap w L.b arr _ t (0, 0) e2) (setRow_size _ _ _) (setRow_os _ _ _) (setRow_output _ _ _) (setRow_tape _ _ _) (fun b hb => setRow_other w L.b b _ hb)
        · exact ⟨Grown.refl _ _, ht.1, ht.2⟩
        · have hll : (l.take off ++ vs ++ l.drop (off + vs.length)).length = l.length := by simp; omega
          have hal : (arr.toList.take (L.base + off + 0) ++ vs' ++ arr.toList.drop (L.base + off + 0 + vs'.length)).length = arr.size := by simp; omega
          refine .c _ o _ t (by rw [List.size_toArray, hal]; exact hs) (by rw [hll]; exact hlen) (fun e => by rw [hll]; exact hopn e) (fun i v hi => ?_)
          rw [seg_get l vs off hle] at hi
          rw [List.getElem?_toArray, Nat.add_zero, seg_get arr.toList vs' (L.base + off) (by simp; omega)]
          by_cases h1 : i < off
          · rw [if_pos h1] at hi
            rw [if_pos (by omega)]
            obtain ⟨a, v', b, c⟩ := hc i v hi
            exact ⟨a, v', by simpa using b, c⟩
          · rw [if_neg h1] at hi
            rw [if_neg (by omega)]
            by_cases h2 : i < off + vs.length
            · rw [if_pos h2] at hi
              rw [if_pos (by omega)]
              obtain ⟨v', b, c⟩ := hv.get _ v hi
              refine ⟨(ones_iff vs).1 ho v (List.mem_of_getElem? hi), v', ?_, c⟩
              rw [show L.base + i - (L.base + off) = i - off by omega]
              exact b
            · rw [if_neg h2] at hi
              rw [if_neg (by omega)]
              obtain ⟨a, v', b, c⟩ := hc i v hi
              exact ⟨a, v', by simpa using b, c⟩
    · cases hw
  · cases hw

/-- an object that is no row of cells, turned. -/
theorem setObj_run (hh : HR P dyn φ (fun p => h.get p) w) {n : Pos} {o0 : AO} {L : Loc} (hn : h.get n = some o0) (hL : φ n = some L) {ob0 : Obj} (hb : w.heap[L.b]? = some ob0) (hnc : ∀ a t f, ob0 ≠ .cells a t f) (o : AO) (ob : Obj) (ho : OR P dyn φ L o ob) :
    ∃ w1, (setObj L.b ob).run P w = .ok () w1 ∧ Aft P dyn φ h w k φ (h.put n (some o)) w1 k := by
  have hlt : L.b < w.heap.size := (Array.getElem?_eq_some_iff.1 hb).1
  refine ⟨{ w with heap := w.heap.setIfInBounds L.b ob }, ?_, ?_⟩
  · simp only [setObj, Sem.run, hb]
    try (cases ob0 <;> first | rfl | exact absurd rfl (hnc _ _ _))
  · have ht := hh.turn (w' := { w with heap := w.heap.setIfInBounds L.b ob }) hn hL o ob ho (by simp [hlt]) (by simp) rfl rfl rfl (fun b hb => by
      simp [Ne.symm hb])
    exact ⟨Grown.refl _ _, ht.1, ht.2⟩

theorem kSame1_eq {φ : Phi} {x y : AV} {v v' : Value} (h : kSame1 x y = true) (hx : VR φ x v) (hy : VR φ y v') : v = v' ∧ ∀ n, Instr.sameBits n v v = true := by
  cases hx <;> cases hy <;> simp only [kSame1, Bool.false_eq_true] at h
  · rename_i a b
    have : a = b := by simpa using h
    subst this
    exact ⟨rfl, fun n => by cases n <;> simp [Instr.sameBits]⟩
  · rename_i k1 a k2 b
    rw [Bool.and_eq_true, eqI_eq] at h
    have : k1 = k2 := by simpa using h.1
    subst this
    have : a = b := by simpa using h.2
    subst this
    exact ⟨rfl, fun n => by cases n <;> simp [Instr.sameBits]⟩
  · rename_i a ha b hb
    rw [eqL_eq a b ha hb] at h
    have h : a.map UInt8.ofNat = b.map UInt8.ofNat := by simpa using h
    have e : strOf a = strOf b := by unfold strOf; rw [h]
    rw [e]
    exact ⟨rfl, fun n => by cases n <;> (simp only [Instr.sameBits]; change ((strOf b).data == (strOf b).data) = true; simp)⟩

theorem kSame_bits {φ : Phi} {x y : AV} {v v' : Value} (h : kSame x y = true) (hx : VR φ x v) (hy : VR φ y v') : Instr.sameBits 10000 v v' = true := by
  by_cases hag : ∃ l l', x = .ag l ∧ y = .ag l'
  · obtain ⟨l, l', rfl, rfl⟩ := hag
    obtain ⟨vs, hvs, rfl⟩ := hx.inv_ag
    obtain ⟨vs', hvs', rfl⟩ := hy.inv_ag
    have key : ∀ (l l' : List AV) (vs vs' : List Value), each (fun ys => match ys with | [] => true | _ => false) (fun x r ys => match ys with | y :: ys => kSame1 x y && r ys | [] => false) l l' = true → VRs φ l vs → VRs φ l' vs' →
        vs.length = vs'.length ∧ (vs.zip vs').all (fun (x, y) => Instr.sameBits 9999 x y) = true := by
      intro l
      induction l with
      | nil =>
        intro l' vs vs' h h1 h2
        cases h1
        cases l' with
        | nil => cases h2; exact ⟨rfl, rfl⟩
        | cons _ _ => cases h
      | cons x l ih =>
        intro l' vs vs' h h1 h2
        cases l' with
        | nil => cases h
        | cons y l' =>
          cases h1 with
          | cons h1 t1 =>
            cases h2 with
            | cons h2 t2 =>
              have h := Bool.and_eq_true_iff.1 (show (kSame1 x y && each (fun ys => match ys with | [] => true | _ => false) (fun x r ys => match ys with | y :: ys => kSame1 x y && r ys | [] => false) l l') = true from h)
              obtain ⟨e1, e2⟩ := ih l' _ _ h.2 t1 t2
              obtain ⟨rfl, e4⟩ := kSame1_eq h.1 h1 h2
              exact ⟨by simp [e1], by simp only [List.zip_cons_cons, List.all_cons, e4, e2, Bool.and_self]⟩
    obtain ⟨e1, e2⟩ := key l l' vs vs' h hvs hvs'
    change (Instr.sameBits (9999 + 1) (.agg ⟨vs⟩) (.agg ⟨vs'⟩)) = true
    simp only [Instr.sameBits, List.size_toArray, e1, beq_self_eq_true, Bool.true_and]
    exact e2
  · have h : kSame1 x y = true := by
      unfold kSame at h
      split at h
      · exact absurd ⟨_, _, rfl, rfl⟩ hag
      · exact h
    obtain ⟨rfl, e⟩ := kSame1_eq h hx hy
    exact e _
end
end Go.Ev
namespace Go.Ev
open Go

section
variable {P : Program} {dyn : List TypeId} {φ : Phi} {oc : Operand → Option CV} {ρ : Rho} {ev : Operand → Value} {h : TT AO} {w : World} {k : Pos}

theorem runTo_skip {s : Sem Unit} {h1 : TT AO} {w1 : World} (hs : s.run P w = .ok () w1) (ha : Aft P dyn φ h w k φ h1 w1 k) : RunTo P dyn φ h w k undf h1 k (do s; pure .skip) :=
  ⟨φ, w1, .skip, undef, by simp [hs], rfl, undef_VR _, ha⟩
theorem runTo_value {s : Sem Value} {v : AV} {v' : Value} {φ1 : Phi} {h1 : TT AO} {w1 : World} {k1 : Pos} (hs : s.run P w = .ok v' w1) (hv : VR φ1 v v') (ha : Aft P dyn φ h w k φ1 h1 w1 k1) : RunTo P dyn φ h w k v h1 k1 (do pure (Next.value (← s))) :=
  ⟨φ1, w1, .value v', v', run_value' hs, rfl, hv, ha⟩
where run_value' {s : Sem Value} {v' : Value} {w w1 : World} (h : s.run P w = .ok v' w1) : (do pure (Next.value (← s)) : Sem Next).run P w = .ok (.value v') w1 := by simp [h]

theorem ef_store (hr : RhoOk φ oc ρ ev) (hh : HR P dyn φ (fun p => h.get p) w) {t : TypeId} {sz : Nat} {oa ov : Operand} {ca cv : CV} (hs : szOf P t = some sz) (h1 : oc oa = some ca) (h2 : oc ov = some cv)
    {n : Pos} {off : Nat} {v : AV} {hp : TT AO} (h3 : ρ ca = some (.p n off)) (h4 : ρ cv = some v) (hl : (cells v).length = sz) (ho : ones (cells v) = true) (hw : wrt h n off (cells v) = some hp) :
    RunTo P dyn φ h w k undf hp k (do Instr.storeAt t (ev oa) (ev ov); pure .skip) := by
  obtain ⟨L, hL, e1⟩ := (hr.one h1 h3).inv_p
  have hv := (hr.one h2 h4).cells
  obtain ⟨w1, e2, ha⟩ := wrt_run (k := k) hh hw hL hv ho
  refine runTo_skip (w1 := w1) ?_ ha
  have : (ev ov).cells.size = sz := by rw [← hl, hv.length]; simp
  rw [e1]
  simp [Instr.storeAt, Instr.sureAddr, storeVar, run_size hs, this, e2]

theorem MRs.push {es : List (AV × AV × Nat)} {es' : List MapEntry} (h : MRs φ es es') {a b : AV} {a' b' : Value} (ha : VR φ a a') (hb : VR φ b b') (n : Nat) : MRs φ (es ++ [(a, b, n)]) (es' ++ [⟨a', b', n⟩]) := by
  induction h with
  | nil => exact .cons ha hb .nil
  | cons hk hv _ ih => exact .cons hk hv ih
theorem MRs.set {es : List (AV × AV × Nat)} {es' : List MapEntry} (h : MRs φ es es') {a b : AV} {a' b' : Value} (ha : VR φ a a') (hb : VR φ b b') : ∀ (i : Nat) (x y : AV) (n : Nat), es[i]? = some (x, y, n) →
    MRs φ (es.set i (a, b, n)) (es'.modify i fun e => { e with key := a', val := b' }) := by
  induction h with
  | nil => intro i x y n h; simp at h
  | cons hk hv t ih =>
    intro i x y n h
    cases i with
    | zero => simp at h; obtain ⟨_, _, rfl⟩ := h; exact .cons ha hb t
    | succ i => simp at h; simpa using MRs.cons hk hv (ih i x y n h)
theorem MRs.erase {es : List (AV × AV × Nat)} {es' : List MapEntry} (h : MRs φ es es') : ∀ (i : Nat), MRs φ (es.take i ++ es.drop (i + 1)) (es'.eraseIdx i) := by
  induction h with
  | nil => intro i; simp; exact .nil
  | cons hk hv t ih =>
    intro i
    cases i with
    | zero => simpa using t
    | succ i => simpa using MRs.cons hk hv (ih i)
theorem MRs.get {es : List (AV × AV × Nat)} {es' : List MapEntry} (h : MRs φ es es') : ∀ (i : Nat) (x y : AV) (n : Nat), es[i]? = some (x, y, n) → ∃ x' y', es'[i]? = some ⟨x', y', n⟩ ∧ VR φ x x' ∧ VR φ y y' := by
  induction h with
  | nil => intro i x y n h; simp at h
  | cons hk hv t ih =>
    intro i x y n h
    cases i with
    | zero => simp at h; obtain ⟨rfl, rfl, rfl⟩ := h; exact ⟨_, _, rfl, hk, hv⟩
    | succ i => simp at h; simpa using ih i x y n h

/-- a map's block turned. -/
theorem map_turn (hh : HR P dyn φ (fun p => h.get p) w) {n : Pos} {es0 : List (AV × AV × Nat)} {clk0 : Nat} (hn : h.get n = some (.mp es0 clk0)) {L : Loc} (hL : φ n = some L) {es0' : List MapEntry} (hb : w.heap[L.b]? = some (.map ⟨es0'⟩ clk0))
    {es : List (AV × AV × Nat)} {es' : List MapEntry} (clk : Nat) (hm : MRs φ es es') : ∃ w1, (setObj L.b (.map ⟨es'⟩ clk)).run P w = .ok () w1 ∧ Aft P dyn φ h w k φ (h.put n (some (.mp es clk))) w1 k :=
  setObj_run hh hn hL hb (by intro a t f e; cases e) _ _ (.mp es clk es' hm)

theorem ef_update (hr : RhoOk φ oc ρ ev) (hh : HR P dyn φ (fun p => h.get p) w) {t kt et : TypeId} {e : ESh} {om ok ov : Operand} {cm ck cv : CV} (hu : P.underlying t = some (.map kt et)) (he : eshOf P 12 kt = some e)
    (h1 : oc om = some cm) (h2 : oc ok = some ck) (h3 : oc ov = some cv) {m x v : AV} (h4 : ρ cm = some m) (h5 : ρ ck = some x) (h6 : ρ cv = some v) {hp : TT AO} (hw : upd e h m x v = some hp) :
    RunTo P dyn φ h w k undf hp k (do Instr.mapUpdate t (ev om) (ev ok) (ev ov); pure .skip) := by
  have hE := eshOf_ER 12 kt e he
  unfold upd at hw
  split at hw
  · rename_i n
    obtain ⟨L, hL, hm⟩ := (hr.one h1 h4).inv_m
    split at hw
    · rename_i es clk hn
      obtain ⟨es', hmr, hb⟩ := map_blk hh hn hL
      have hx := hr.one h2 h5
      have hv := hr.one h3 h6
      cases hf : fnd e x es with
      | none => rw [hf] at hw; cases hw
      | some r =>
        rw [hf] at hw
        unfold fnd at hf
        rcases cond_eq_true hf with ⟨hs, hf⟩ | ⟨_, hf⟩
        · have hck := checkKey_run (P := P) (w := w) (b := false) 12 hE hs hx 10000 (by omega)
          obtain ⟨r', hfk, hok⟩ := findKey_run (P := P) (w := w) hE hx hmr hf
          cases r with
          | none =>
            cases r' with
            | some r' => cases hok
            | none =>
              cases hw
              obtain ⟨w1, e2, ha⟩ := map_turn (k := k) hh hn hL hb (clk + 1) (hmr.push hx hv clk)
              rw [app_eq]
              refine runTo_skip (w1 := w1) ?_ ha
              simp only [Instr.mapUpdate, Sem.run_bind, run_underlying hu, Result.andThen_ok, hm, run_getObj_map hb, hck, hfk]
              simpa using e2
          | some r =>
            obtain ⟨i, y, born⟩ := r
            cases r' with
            | none => cases hok
            | some r' =>
              obtain ⟨i', y'⟩ := r'
              obtain ⟨rfl, _, _, ⟨k0, hk0⟩, ⟨k0', hk0'⟩⟩ := hok
              simp only [Nat.sub_zero] at hk0 hk0'
              simp only at hw
              split at hw
              · rename_i z es2 hnth hset
                rcases cond_eq_true hw with ⟨hks, hw⟩ | ⟨_, hw⟩
                · cases hw
                  rw [nth_eq, hk0] at hnth
                  cases hnth
                  obtain ⟨_, hset⟩ := setn_eq _ _ _ _ hset
                  subst hset
                  obtain ⟨x1, y1, hg1, hg2, _⟩ := hmr.get i k0 y born hk0
                  rw [hk0'] at hg1
                  cases hg1
                  have hbits := kSame_bits hks hg2 hx
                  obtain ⟨w1, e2, ha⟩ := map_turn (k := k) hh hn hL hb clk (hmr.set hx hv i k0 y born hk0)
                  refine runTo_skip (w1 := w1) ?_ ha
                  have hks' : (Instr.keyThatStays k0' (ev ok)).run P w = .ok (ev ok) w := by
                    simp [Instr.keyThatStays, hbits]
                  simp only [Instr.mapUpdate, Sem.run_bind, run_underlying hu, Result.andThen_ok, hm, run_getObj_map hb, hck, hfk]
                  simp only [List.getElem?_toArray, hk0', Option.map_some, Option.getD_some, hks', Result.andThen_ok]
                  simpa using e2
                · cases hw
              · cases hw
        · cases hf
    · cases hw
  · cases hw

theorem ef_delete (hr : RhoOk φ oc ρ ev) (hh : HR P dyn φ (fun p => h.get p) w) {t kt et ty : TypeId} {ts : List TypeId} {e : ESh} {om ok : Operand} {cm ck : CV} (hu : P.underlying t = some (.map kt et)) (he : eshOf P 12 kt = some e)
    (h1 : oc om = some cm) (h2 : oc ok = some ck) {m x : AV} (h4 : ρ cm = some m) (h5 : ρ ck = some x) {hp : TT AO}
    (hw : (m = .mz ∧ shp 12 e x = true ∧ hp = h) ∨ ∃ n es clk, m = .m n ∧ h.get n = some (.mp es clk) ∧ ((∃ i r, fnd e x es = some (some (i, r)) ∧ hp = h.put n (some (.mp (es.take i ++ es.drop (i + 1)) clk))) ∨ (fnd e x es = some none ∧ hp = h))) :
    RunTo P dyn φ h w k undf hp k (do pure (Next.value (← Builtin.delete_ (t :: ts).toArray ty #[ev om, ev ok]))) := by
  have hE := eshOf_ER 12 kt e he
  have hx := hr.one h2 h5
  rcases hw with ⟨rfl, hs, rfl⟩ | ⟨n, es, clk, rfl, hn, hw⟩
  · have hm := hr.one h1 h4
    have hm : ev om = .map none := by generalize ev om = vm at hm; cases hm; rfl
    have hck := checkKey_run (P := P) (w := w) (b := true) 12 hE hs hx 10000 (by omega)
    refine runTo_value (w1 := w) (v' := .tuple #[]) ?_ (.tu [] [] .nil) (Aft.refl hh)
    simp [Builtin.delete_, run_underlying hu, hm, hck]
  · obtain ⟨L, hL, hm⟩ := (hr.one h1 h4).inv_m
    obtain ⟨es', hmr, hb⟩ := map_blk hh hn hL
    have hfs : ∀ {r}, fnd e x es = some r → shp 12 e x = true ∧ fndFrom e x es 0 = some r := by
      intro r hf
      unfold fnd at hf
      rcases cond_eq_true hf with ⟨hs, hf⟩ | ⟨_, hf⟩
      · exact ⟨hs, hf⟩
      · cases hf
    rcases hw with ⟨i, r, hf, rfl⟩ | ⟨hf, rfl⟩
    · obtain ⟨hs, hf⟩ := hfs hf
      have hck := checkKey_run (P := P) (w := w) (b := es'.isEmpty) 12 hE hs hx 10000 (by omega)
      obtain ⟨r', hfk, hok⟩ := findKey_run (P := P) (w := w) hE hx hmr hf
      cases r' with
      | none => cases hok
      | some r' =>
        obtain ⟨i', y'⟩ := r'
        obtain ⟨rfl, _⟩ := hok
        obtain ⟨w1, e2, ha⟩ := map_turn (k := k) hh hn hL hb clk (hmr.erase i)
        refine runTo_value (w1 := w1) (v' := .tuple #[]) ?_ (.tu [] [] .nil) ha
        have e3 : (⟨es'⟩ : Array MapEntry).eraseIdxIfInBounds i = ⟨es'.eraseIdx i⟩ := by apply Array.ext'; simp
        simp only [Builtin.delete_, hm, List.getElem?_toArray, List.getElem?_cons_zero]
        simp [run_underlying hu, run_getObj_map hb, hck, hfk, e2]
    · obtain ⟨hs, hf⟩ := hfs hf
      have hck := checkKey_run (P := P) (w := w) (b := es'.isEmpty) 12 hE hs hx 10000 (by omega)
      obtain ⟨r', hfk, hok⟩ := findKey_run (P := P) (w := w) hE hx hmr hf
      cases r' with
      | some r' => cases hok
      | none =>
        obtain ⟨w1, e2, ha⟩ := map_turn (k := k) hh hn hL hb clk hmr
        refine runTo_value (w1 := w1) (v' := .tuple #[]) ?_ (.tu [] [] .nil) ⟨ha.gr, ha.hr.less ?_, ?_⟩
        · simp only [Builtin.delete_, hm, List.getElem?_toArray, List.getElem?_cons_zero]
          simp [run_underlying hu, run_getObj_map hb, hck, hfk, e2]
        · intro n' o hn'
          simp only [get_put]
          split
          · rename_i e; subst e; rw [← hn, ← hn']
          · exact hn'
        · refine ⟨ha.ex.sz, ha.ex.os, ha.ex.out, ha.ex.tape, ha.ex.fr, fun b hb hi => hi⟩

theorem ef_clearMap (hr : RhoOk φ oc ρ ev) (hh : HR P dyn φ (fun p => h.get p) w) {t kt et ty : TypeId} {om : Operand} {cm : CV} (hu : P.underlying t = some (.map kt et)) (h1 : oc om = some cm) {m : AV} (h4 : ρ cm = some m) {hp : TT AO}
    (hw : (m = .mz ∧ hp = h) ∨ ∃ n es clk, m = .m n ∧ h.get n = some (.mp es clk) ∧ hp = h.put n (some (.mp [] clk))) :
    RunTo P dyn φ h w k undf hp k (do pure (Next.value (← Builtin.clear_ #[t] ty #[ev om]))) := by
  rcases hw with ⟨rfl, rfl⟩ | ⟨n, es, clk, rfl, hn, rfl⟩
  · have hm := hr.one h1 h4
    have hm : ev om = .map none := by generalize ev om = vm at hm; cases hm; rfl
    refine runTo_value (w1 := w) (v' := .tuple #[]) ?_ (.tu [] [] .nil) (Aft.refl hh)
    simp [Builtin.clear_, run_underlying hu, hm]
  · obtain ⟨L, hL, hm⟩ := (hr.one h1 h4).inv_m
    obtain ⟨es', hmr, hb⟩ := map_blk hh hn hL
    obtain ⟨w1, e2, ha⟩ := map_turn (k := k) hh hn hL hb clk (.nil : MRs φ [] [])
    refine runTo_value (w1 := w1) (v' := .tuple #[]) ?_ (.tu [] [] .nil) ha
    simp [Builtin.clear_, run_underlying hu, hm, run_getObj_map hb, e2]
end
end Go.Ev
