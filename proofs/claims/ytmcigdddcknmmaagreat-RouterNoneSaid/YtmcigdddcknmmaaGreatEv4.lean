/- An evaluator whose answers are the machine's, proved once; part 4. No condition. -/
import Derived.Test.YtmcigdddcknmmaaGreatEv3
import Derived.RangeFuncNested
namespace Go.Ev
open Go

section
variable {P : Program} {dyn : List TypeId}

theorem rf_ok {s : Sf} (hs : SfAll P dyn s) {gm nt : Nat} (hnt : nt ≤ 65536) (f : Operand) (ps : Array Tmp) (a b : Code) (x y : CC × CC) (cf : CV) (hcf : ocS gm nt [] f = some cf) (hca : compH P dyn gm nt a x.1 = some x.2) (hcb : compH P dyn gm nt b y.1 = some y.2)
    (hps : (ps.toList.all fun t => kept gm t && Nat.blt t nt) = true) : CodeOk P dyn s gm nt (.rangeFunc f ps a b) (.rf cf (ps.toList.map pos) x.2 y.2) := by
  intro rd F D h k e F1 D1 h1 k1 he φ w act Fn hT hD hF hh hn
  simp only [stX] at he
  have hr := rhoS hT (lr_nil φ gm nt act.tmps)
  split at he
  rotate_left
  · cases he
  rename_i g xs ys hv
  have hfv := hr.one hcf hv
  obtain ⟨vs, ws, g1, g2, g3⟩ : ∃ vs ws, VRs φ xs vs ∧ VRs φ ys ws ∧ act.eval f = .func (.func (g.num - 1)) ⟨vs⟩ ⟨ws⟩ := by
    generalize act.eval f = u at hfv
    cases hfv
    exact ⟨_, _, by assumption, by assumption, rfl⟩
  -- what is common to both
  have fin : ∀ (l : Pos) (Dn : List AD) (hl : TT AO) (kl : Pos) (d : Pos),
      (match callV s (.f g xs ys) [.fy l] hl kl with
        | .go _ h k => (match h.get l with
          | some (.lp .busy ..) => R.bad 51
          | some (.lp _ p F0 ps0 a0 b0 d0) => (match p with | none => .go .nrm F Dn (h.put l (some (.lp .exhausted p F0 ps0 a0 b0 d0))) k | some x => .go x F Dn (h.put l (some (.lp .exhausted p F0 ps0 a0 b0 d0))) k)
          | _ => .bad 52)
        | .bad w => .bad w) = .go e F1 D1 h1 k1 →
      kl.num ≤ k1.num ∧ ∀ (φl : Phi) (wl : World) (L : Loc) (mark : List Deferred), φ.le φl → φl l = some L → HR P dyn φl (fun p => hl.get p) wl → New φl kl k1 → Fc φl rd Fn → DR φl rd Dn (mark ++ act.defers) →
        (∀ φ1 w1, φl.le φ1 → Aft P dyn φl hl wl kl φ1 h1 w1 k1 → Aft P dyn φ h w k φ1 h1 w1 k1) →
        ∃ d w₁' f' args w₂, (resolve act.eval (rangeCall f L.b) 0).run P wl = .ok d w₁' ∧ (∀ f', Target.leads P w₁' d.target d.args = some f' → Fn.fn f') ∧ (invoke d.target d.args).run P w₁' = .ok (.enter f' args) w₂ ∧
          (Fn.depth.isSome = true → 1 ≤ 0) ∧ CallsIn Fn (0 - 1) P f' args w₂ (rangePost Fn 0 P L.b (CPost P dyn φ rd gm nt h w k e F1 D1 h1 k1) { act with defers := mark ++ act.defers }) := by
    intro l Dn hl kl d he
    cases hcv : callV s (.f g xs ys) [.fy l] hl kl with
    | bad n => rw [hcv] at he; cases he
    | go v0 h3 k3 =>
      rw [hcv] at he
      simp only at he
      obtain ⟨l1, hV⟩ := callV_ok hs.ok hcv
      have hinv : ∃ st p F0 ps0 a0 b0 d0, h3.get l = some (.lp st p F0 ps0 a0 b0 d0) ∧ st ≠ .busy ∧ k3 = k1 ∧ F1 = F ∧ D1 = Dn ∧ h1 = h3.put l (some (.lp .exhausted p F0 ps0 a0 b0 d0)) ∧ e = (match p with | none => .nrm | some x => x) := by
        split at he
        · cases he
        · rename_i st p F0 ps0 a0 b0 d0 hnb hg
          refine ⟨_, p, F0, ps0, a0, b0, d0, hg, ?_, ?_⟩
          · intro e'
            subst e'
            exact hnb rfl
          · cases p <;> cases he <;> exact ⟨rfl, rfl, rfl, rfl, rfl⟩
        · cases he
      obtain ⟨st, p, F0, ps0, a0, b0, d0, hg, hst, rfl, rfl, rfl, rfl, rfl⟩ := hinv
      refine ⟨l1, fun φl wl L mark hle hL hhl hnl hFl hDl hA => ?_⟩
      have hyv : VRs φl [.fy l] (#[Value.func (.yield L.b) #[] #[]] : Array Value).toList := .cons (.fy l L hL) .nil
      have hfv' : VR φl (.f g xs ys) (act.eval f) := by
        rw [g3]; exact .f g xs ys vs ws (g1.mono hle) (g2.mono hle)
      rcases hV φl wl (act.eval f) #[.func (.yield L.b) #[] #[]] hfv' hyv hhl hnl with ⟨fi, first, cap, e1, e2, e3⟩ | ⟨b', _, _, _, _, e1, _⟩
      · refine ⟨⟨.fn (.func fi) cap, first ++ #[.func (.yield L.b) #[] #[]]⟩, wl, fi, first ++ #[.func (.yield L.b) #[] #[]] ++ cap, wl, ?_, fun f' _ => hF.fn f', ?_, hF.deep _, ?_⟩
        · simp only [resolve, e1]
          simp [go_sem]
        · simp [invoke, e2]
        · refine CallsIn.mono (hFl.calls e3) ?_
          rintro e' w3 ⟨v', φ3, rfl, _, hA3⟩
          have hle3 : φl.le φ3 := hA3.le hnl
          obtain ⟨r, r1, r2, r3, r4, r5⟩ := lp_turn (k := k3) hA3.hr hg (hle3 _ _ hL)
          have hA4 := r5 .exhausted p r4
          have er : ({ r with state := stOf .exhausted, pending := p.bind jumpOf } : Loop) = { r with state := .exhausted } := by rw [← r3]; rfl
          rw [er] at hA4
          have hA5 : Aft P dyn φl hl wl kl φ3 (h3.put l (some (.lp .exhausted p F0 ps0 a0 b0 d0))) _ k3 := Aft.trans l1 (Nat.le_refl _) hA3 hA4
          have hA6 := hA φ3 _ hle3 hA5
          have hend := run_endLoop (P := P) r1 (by rw [r2]; cases st <;> first | (exact absurd rfl hst) | simp [stOf])
          obtain ⟨jp, hjp⟩ : ∃ j, j = r.pending := ⟨_, rfl⟩
          refine ⟨jp, _, by rw [hjp]; exact hend, ?_⟩
          rw [hjp.trans r3]
          have hpost : ∀ x, CPost P dyn φ rd gm nt h w k x F1 D1 (h3.put l (some (.lp .exhausted p F0 ps0 a0 b0 d0))) k3 (exitOf x) { act with defers := mark ++ act.defers } _ :=
            fun x => ⟨rfl, φ3, (hT.mono hle).mono hle3, hDl.mono hle3, hA6⟩
          cases p with
          | none => exact hpost .nrm
          | some x =>
            obtain ⟨c, hc⟩ := r4 x rfl
            cases x with
            | nrm => cases hc
            | ret => cases hc; exact wpIn_ret (hpost .ret)
            | ext id => cases hc; exact wpIn_exit (hpost (.ext id))
      · rw [g3] at e1; cases e1
  cases rd with
  | none =>
    simp only at he
    obtain ⟨l1, hfin⟩ := fin _ _ _ _ k he
    obtain rfl : Fn = Fence.wide := hF
    have hk0 : φ k = none := hn k (Nat.le_refl _) (by rw [Pos.num_succ, Pos.num_succ] at l1; omega)
    refine wpIn_rangeFunc (fun fn _ => ?_)
    rw [show Fence.wide.round = none from rfl]
    obtain ⟨m1, m2⟩ := hh.alloc hk0 .df (.deferred (some [])) 0 0 .df
    have hks : upL φ k ⟨w.heap.size, 0, 0⟩ k.succ = none := by
      rw [upL_other _ _ (fun e => by have := congrArg Pos.num e; rw [Pos.num_succ] at this; omega)]
      exact hn k.succ (by rw [Pos.num_succ]; omega) (by rw [Pos.num_succ] at l1; omega)
    have hle1 := upL_le (φ := φ) ⟨w.heap.size, 0, 0⟩ hk0
    have hle2 := upL_le (φ := upL φ k ⟨w.heap.size, 0, 0⟩) ⟨(w.alloc (.deferred (some []))).heap.size, 0, 0⟩ hks
    obtain ⟨m3, m4⟩ := m1.alloc hks (.lp .ready none F (ps.toList.map pos) x.2 y.2 k) (.loop { state := .ready, pending := none, fn := fn, tmps := act.tmps, params := ps, assign := a, body := b, defers := w.heap.size }) 0 0
      (.lp .ready none F ps.toList x.2 y.2 k gm nt fn act.tmps a b x.1 y.1 ⟨w.heap.size, 0, 0⟩ (hT.mono (Phi.le_trans hle1 hle2)) hps hca hcb hnt (hle2 _ _ (upL_same _ _ _)) (by intro x e; cases e))
    have hkk : k.succ.succ.num = k.num + 2 := by rw [Pos.num_succ, Pos.num_succ]
    have hgrow : Grown φ (upL (upL φ k ⟨w.heap.size, 0, 0⟩) k.succ ⟨(w.alloc (.deferred (some []))).heap.size, 0, 0⟩) k k.succ.succ :=
      Grown.trans (by rw [Pos.num_succ]; omega) (by rw [Pos.num_succ]; omega) (upL_grown _ _ _) (upL_grown _ _ _)
    obtain ⟨d, w₁', f', args, w₂, z1, z2, z3, z4, z5⟩ := hfin _ _ ⟨(w.alloc (.deferred (some []))).heap.size, 0, 0⟩ [⟨.collected w.heap.size, #[]⟩] (Phi.le_trans hle1 hle2) (upL_same _ _ _) m3 (hn.right (by omega) hgrow) rfl
      (DRs.mk k ⟨w.heap.size, 0, 0⟩ (hle2 _ _ (upL_same _ _ _)) ((DR.mono (Phi.le_trans hle1 hle2) hD : DR _ none _ _)))
      (fun φ1 w1 hle hA => ⟨Grown.trans (by omega) l1 hgrow hA.gr, hA.hr, (m2.trans m4).trans hA.ex⟩)
    refine ⟨w.heap.size + 1, _, _, d, w₁', f', args, w₂, run_enterLoop_outer _ _ _ _ _, ?_, z2, z3, z4, ?_⟩
    · have : (w.alloc (.deferred (some []))).heap.size = w.heap.size + 1 := by simp
      rw [this] at z1
      exact z1
    · have : (w.alloc (.deferred (some []))).heap.size = w.heap.size + 1 := by simp
      rw [this] at z5
      exact z5
  | some l0 =>
    simp only at he
    split at he
    rotate_left
    · cases he
    rename_i st0 p0 F0 ps0 a0 b0 d0 hg0
    obtain ⟨l1, hfin⟩ := fin _ _ _ _ k he
    obtain ⟨L0, hL0, rfl⟩ := hF
    have hk0 : φ k = none := hn k (Nat.le_refl _) (by rw [Pos.num_succ] at l1; omega)
    obtain ⟨L', ob, q1, q2, q3⟩ := hh.blk l0 _ hg0
    rw [hL0] at q1; cases q1
    cases q3 with
    | lp _ _ _ ts _ _ _ gm0 nt0 fn0 tmps0 assign0 body0 ha0 hb0 Ld hT0 hps0 hc1 hc2 hnt0 hd0 hp0 =>
      refine wpIn_rangeFunc (fun fn _ => ?_)
      rw [show (Fence.wide.inRound L0.b).round = some L0.b from rfl]
      have hle1 := upL_le (φ := φ) ⟨w.heap.size, 0, 0⟩ hk0
      obtain ⟨m3, m4⟩ := hh.alloc hk0 (.lp .ready none F (ps.toList.map pos) x.2 y.2 d0) (.loop { state := .ready, pending := none, fn := fn, tmps := act.tmps, params := ps, assign := a, body := b, defers := Ld.b }) 0 0
        (.lp .ready none F ps.toList x.2 y.2 d0 gm nt fn act.tmps a b x.1 y.1 Ld (hT.mono hle1) hps hca hcb hnt (hle1 _ _ hd0) (by intro x e; cases e))
      obtain ⟨d, w₁', f', args, w₂, z1, z2, z3, z4, z5⟩ := hfin _ _ ⟨w.heap.size, 0, 0⟩ [] hle1 (upL_same _ _ _) m3 (hn.right (by rw [Pos.num_succ]; omega) (upL_grown _ _ _)) ⟨L0, hle1 _ _ hL0, rfl⟩
        (DR.mono hle1 hD) (fun φ1 w1 hle hA => ⟨Grown.trans (by rw [Pos.num_succ]; omega) l1 (upL_grown _ _ _) hA.gr, hA.hr, m4.trans hA.ex⟩)
      exact ⟨w.heap.size, [], _, d, w₁', f', args, w₂, run_enterLoop_inner q2 _ _ _ _ _, z1, z2, z3, z4, z5⟩
end
end Go.Ev
namespace Go.Ev
open Go

/-- the compiled functions are the program's. -/
def TblOk (P : Program) (dyn : List TypeId) (T : TT CFn) : Prop := ∀ f c, T.get f = some c → ∃ fn hint, P.funcs[f.num - 1]? = some fn ∧ compF P dyn fn hint = some c
/-- a deferred call that does nothing when nobody panics. -/
def QuietOk (P : Program) (quiet : Pos → Bool) : Prop := ∀ f, quiet f = true → ∀ (args : Array Value) (w : World), (callFunc (f.num - 1) args).run P w = .ok (.enter (f.num - 1) args) w ∧
  CallsDIn Fence.wide 0 P (f.num - 1) args .returning w fun e u' w' => (∃ v, e = .returned v) ∧ settle u' = .returning ∧ w'.heap = w.heap ∧ w'.os = w.os ∧ w'.output = w.output ∧ w'.tape = w.tape

section
variable {P : Program} {dyn : List TypeId}

theorem fold_own : ∀ (l : List (Tmp × Value)) (tmps : Array Value), (∀ p ∈ l, tmps[p.1]? = some p.2) → l.foldl (fun tmps p => tmps.setIfInBounds p.1 p.2) tmps = tmps
  | [], _, _ => rfl
  | p :: l, tmps, h => by
    have hp := h p (by simp)
    have : tmps.setIfInBounds p.1 p.2 = tmps := by
      apply Array.ext'
      simp only [Array.toList_setIfInBounds]
      apply List.ext_getElem?
      intro i
      rw [List.getElem?_set]
      split
      · rename_i e
        subst e
        have h2 : tmps.toList[p.1]? = some p.2 := by simpa using hp
        have : p.1 < tmps.toList.length := (List.getElem?_eq_some_iff.1 h2).1
        rw [if_pos this, h2]
      · rfl
    simp only [List.foldl_cons, this]
    exact fold_own l tmps fun q hq => h q (by simp [hq])

def resF (tmps : Array Value) (r : ResultVar) : Sem Value := match r with
  | .tmp t => pure (tmps.getD t undef)
  | .cell a t => do loadVar t (← asAddr (tmps.getD a undef))
theorem results_eq (fn : Func) (tmps : Array Value) : results fn tmps = (do let vs ← fn.results.mapM (resF tmps); pure (if h : vs.size = 1 then vs[0] else .tuple vs)) := rfl
theorem res_run {φ : Phi} {gm nt : Nat} {F : TT AV} {tmps : Array Value} {h : TT AO} {w : World} (hT : TR φ gm nt (fun p => F.get p) tmps) (hh : HR P dyn φ (fun p => h.get p) w) :
    ∀ (rs : List ResultVar) (cs : List CR) (l : List AV), mapO (compR P gm nt) rs = some cs → res F h cs = some l → ∃ vs : List Value, VRs φ l vs ∧
      (rs.mapM (resF tmps)).run P w = .ok vs w
  | [], cs, l, h1, h2 => by cases h1; cases h2; exact ⟨[], .nil, rfl⟩
  | r :: rs, cs, l, h1, h2 => by
    simp only [mapO] at h1
    cases hr : compR P gm nt r with
    | none => rw [hr] at h1; cases h1
    | some c =>
      rw [hr] at h1
      cases hm : mapO (compR P gm nt) rs with
      | none => rw [hm] at h1; cases h1
      | some cs' =>
        rw [hm] at h1
        cases h1
        change (match (match (generalizing := false) c with
          | .t p => F.get p
          | .c p sz agg => (match F.get p with | some v => evRd (fun _ => some v) h (.ld sz agg (.l 0)) | none => none)), res F h cs' with
          | some v, some l => some (v :: l)
          | _, _ => none) = some l at h2
        split at h2
        · rename_i v l' hv hl
          cases h2
          obtain ⟨vs, e1, e2⟩ := res_run hT hh rs cs' l' hm hl
          cases r with
          | tmp t =>
            simp only [compR] at hr
            rcases cond_eq_true hr with ⟨hk, hr⟩ | ⟨_, hr⟩
            · cases hr
              simp only [Bool.and_eq_true] at hk
              have hlt := hk.2
              rw [blt_iff] at hlt
              obtain ⟨_, v', g1, g2⟩ := hT.slot t v (by simpa using hlt) hv
              refine ⟨v' :: vs, .cons g2 e1, ?_⟩
              rw [List.mapM_cons]
              have h0 : (resF tmps (.tmp t)).run P w = .ok v' w := by simp [resF, Array.getD_eq_getD_getElem?, g1]
              simp [h0, e2]
            · cases hr
          | cell a t =>
            simp only [compR] at hr
            rcases cond_eq_true hr with ⟨hk, hr⟩ | ⟨_, hr⟩
            · simp only [Bool.and_eq_true] at hk
              have hlt := hk.2
              rw [blt_iff] at hlt
              split at hr
              · rename_i sz ag hs ha
                cases hr
                simp only at hv
                split at hv
                · rename_i u hu
                  obtain ⟨_, u', g1, g2⟩ := hT.slot a u (by simpa using hlt) hu
                  simp only [evRd] at hv
                  cases g2 with
                  | p n off L hL =>
                    simp only at hv
                    obtain ⟨v', b1, b2⟩ := ld_run (P := P) hh hs ha (.p n off L hL) hv
                    refine ⟨v' :: vs, .cons b2 e1, ?_⟩
                    rw [List.mapM_cons]
                    have b3 : (loadVar t ⟨L.b, L.base + off, none⟩).run P w = .ok v' w := by simpa [Instr.loadAt, Instr.sureAddr] using b1
                    have h0 : (resF tmps (.cell a t)).run P w = .ok v' w := by simp [resF, Array.getD_eq_getD_getElem?, g1, asAddr, b3]
                    simp [h0, e2]
                  | _ => cases hv
                · cases hv
              · cases hr
            · cases hr
        · cases h2

theorem lv_run {quiet : Pos → Bool} (hq : QuietOk P quiet) {fn : Func} {gm nt : Nat} {F : TT AV} {rs : List CR} (hrs : mapO (compR P gm nt) fn.results.toList = some rs) {k : Pos} {v : AV} {h1 : TT AO} {k1 : Pos} :
    ∀ (D : List AD) (h : TT AO), lv quiet F rs k D h = .go v h1 k1 → ∀ (φ : Phi) (tmps : Array Value) (ds : List Deferred) (w : World) (R : Ending → World → Prop), TR φ gm nt (fun p => F.get p) tmps → DRs φ D ds → HR P dyn φ (fun p => h.get p) w →
      (∀ v' w1, VR φ v v' → Aft P dyn φ h w k φ h1 w1 k1 → R (.returned v') w1) → LeavesInM Fence.wide 0 P fn tmps R ds .returning w
  | [], h, he, φ, tmps, ds, w, R, hT, hD, hh, hR => by
    cases hD
    change (match res F h rs with | some [v] => RV.go v h k | some l => .go (.tu l) h k | none => .bad 60) = _ at he
    have hk : ∃ l, res F h rs = some l ∧ k1 = k ∧ h1 = h ∧ v = (match l with | [v] => v | l => .tu l) := by
      split at he <;> cases he
      · rename_i e; exact ⟨_, e, rfl, rfl, rfl⟩
      · rename_i hne e; refine ⟨_, e, rfl, rfl, ?_⟩
        split
        · rename_i u; exact (hne u rfl).elim
        · rfl
    obtain ⟨l, hl, rfl, rfl, rfl⟩ := hk
    obtain ⟨vs, e1, e2⟩ := res_run (P := P) hT hh fn.results.toList rs l hrs hl
    have e3 : (fn.results.mapM (resF tmps)).run P w = .ok ⟨vs⟩ w := by
      rw [Array.mapM_eq_mapM_toList]
      simp only [Sem.run_map, e2, Result.andThen]
    simp only [LeavesInM, LeavesIn]
    have hlen := e1.length
    refine ⟨if h : vs.length = 1 then vs[0]'(by omega) else .tuple ⟨vs⟩, ?_, hR _ w ?_ (Aft.refl hh)⟩
    · rw [results_eq]
      simp only [Sem.run_bind, e3, Result.andThen_ok, Sem.run_pure]
      simp
    · cases e1 with
      | nil => exact .tu [] [] .nil
      | cons hx ht =>
        cases ht with
        | nil => simpa using hx
        | cons hy ht => simp only [List.length_cons]; exact .tu _ _ (.cons hx (.cons hy ht))
  | d :: D, h, he, φ, tmps, ds, w, R, hT, hD, hh, hR => by
    cases hD with
    | mk n L hL t =>
      change (match h.get n with | some .df => lv quiet F rs k D (h.put n (some .dd)) | _ => .bad 61) = _ at he
      split at he
      · rename_i hn
        obtain ⟨L', ob, a1, a2, a3⟩ := hh.blk n _ hn
        rw [hL] at a1; cases a1
        cases a3
        obtain ⟨w1, b1, b2⟩ := setObj_run (k := k) hh hn hL a2 (by intro a t f e; cases e) .dd (.deferred none) .dd
        refine ⟨(by intro e; cases e), .inl ⟨L.b, w1, rfl, ?_, ?_⟩⟩
        · have hgo : (getObj L.b).run P w = .ok (.deferred (some [])) w := by simp [getObj, Sem.run, a2]
          simp [Instr.takeDeferred, hgo, b1]
        · refine lv_run hq hrs D _ he φ tmps _ w1 R hT t b2.hr (fun v' w2 hv hA => hR v' w2 hv ?_)
          have : k1 = k := lv_mono he
          exact Aft.trans (Nat.le_refl _) (by rw [this]; exact Nat.le_refl _) b2 hA
      · cases he
    | fn f l args cap hl t =>
      change cond (quiet f) (lv quiet F rs k D h) (.bad 62) = _ at he
      rcases cond_eq_true he with ⟨hqf, he⟩ | ⟨_, he⟩
      · obtain ⟨q1, q2⟩ := hq f hqf (args ++ cap) w
        refine ⟨(by intro e; cases e), .inr ⟨(by intro e; cases e), .func (f.num - 1), cap, f.num - 1, args ++ cap, rfl, by simpa [invoke] using q1, fun _ _ => trivial, ?_⟩⟩
        refine ⟨q2.1, fun c cs hm hroom => ?_⟩
        obtain ⟨e, u', w', fr, ⟨⟨v0, rfl⟩, hse, hw1, hw2, hw3, hw4⟩, rest⟩ := q2.2 c cs hm hroom
        refine ⟨_, u', w', fr, ?_, rest⟩
        simp only [hse]
        have hA := Aft.drawn (k := k) hh hw1 hw2 hw3 hw4
        refine lv_run hq hrs D _ he φ tmps _ w' R hT t hA.hr (fun v' w2 hv hA2 => hR v' w2 hv ?_)
        have : k1 = k := lv_mono he
        exact Aft.trans (Nat.le_refl _) (by rw [this]; exact Nat.le_refl _) hA hA2
      · cases he

theorem stC_ok {T : TT CFn} {quiet : Pos → Bool} (hT : TblOk P dyn T) (hq : QuietOk P quiet) {s : Sf} (hs : SfAll P dyn s) : CaOk P dyn (stC T quiet s) := by
  intro f l h k v h1 k1 he
  have hle := stC_mono hs.mono he
  unfold stC at he
  split at he
  rotate_left
  · cases he
  rename_i c hc
  obtain ⟨fn, hint, hfn, hcf⟩ := hT f c hc
  unfold compF at hcf
  split at hcf
  rotate_left
  · cases hcf
  rename_i body rs hbody hrs
  split at hcf
  rotate_left
  · cases hcf
  rename_i b hb
  rcases cond_eq_true hcf with ⟨hcond, hcf⟩ | ⟨_, hcf⟩
  rotate_left
  · cases hcf
  cases hcf
  simp only [Bool.and_eq_true, Bool.not_eq_true'] at hcond
  obtain ⟨⟨⟨hnt, hname⟩, hpn⟩, hkept⟩ := hcond
  rw [ble_iff] at hnt hpn
  have hnt : fn.ntmps ≤ 65536 := by simpa using hnt
  have hpn : fn.params.size + fn.nfree ≤ fn.ntmps := by simpa using hpn
  refine ⟨hle, fun args w => by have h1 : fn.name ≠ "runtime.NumGoroutine" := (by simpa using hname); simp [callFunc, hfn, h1, hbody], fun φ w args hl hh hn => ?_⟩
  split at he
  rotate_left
  · cases he
  rename_i F hset
  refine callsIn_of_wp_marks hfn hbody trivial ?_
  have hall : (List.range (fn.params.size + fn.nfree)).all (fun t => kept hint.gm t && Nat.blt t fn.ntmps) = true := by
    rw [List.all_eq_true] at hkept ⊢
    intro t ht
    have h2 := hkept t ht
    rw [h2, Bool.true_and, blt_iff]
    have := List.mem_range.1 ht
    simp; omega
  have hsl : args.size = fn.params.size + fn.nfree := by
    have key : ∀ (ts : List Pos) (l : List AV) (F0 F1 : TT AV), setAll ts l F0 = some F1 → ts.length = l.length := by
      intro ts
      induction ts with
      | nil => intro l F0 F1 h; cases l with | nil => rfl | cons _ _ => cases h
      | cons t ts ih =>
        intro l F0 F1 h
        cases l with
        | nil => cases h
        | cons x l =>
          change setAll ts l (F0.put t (some x)) = some F1 at h
          simp [ih l _ _ h]
    have h1 := key _ _ _ _ hset
    have h2 := hl.length
    simp at h1 h2
    omega
  have hT0 : TR φ hint.gm fn.ntmps (fun p => (TT.e : TT AV).get p) (args ++ Array.replicate (fn.ntmps - args.size) undef) :=
    ⟨by simp; omega, fun t v _ h => by simp only [get_e] at h; cases h⟩
  obtain ⟨hT1, _⟩ := setAll_run hnt hT0 hall hset hl
  rw [fold_own] at hT1
  rotate_left
  · rintro ⟨t, v⟩ hp
    obtain ⟨i, hi⟩ := List.mem_iff_getElem?.1 hp
    rw [List.getElem?_zip_eq_some] at hi
    obtain ⟨hi1, hi2⟩ := hi
    have hlt := (List.getElem?_eq_some_iff.1 hi1).1
    have hti := (List.getElem?_eq_some_iff.1 hi1).2
    simp at hlt hti
    subst hti
    have hlt2 : i < args.size := by omega
    simp only
    rw [Array.getElem?_append, if_pos hlt2]
    simpa using hi2
  have body_ok : ∀ (x : X) (F1 : TT AV) (D1 : List AD) (h2 : TT AO) (k2 : Pos), s.ex b none F [] h k = .go x F1 D1 h2 k2 → (x = .nrm ∨ x = .ret) → lv quiet F1 rs k2 D1 h2 = .go v h1 k1 →
      body.wpIn Fence.wide 0 P (bodyPostM Fence.wide 0 P fn (RetTo P dyn φ h w k v h1 k1)) { tmps := args ++ Array.replicate (fn.ntmps - args.size) undef, defers := [] } w := by
    intro x F1 D1 h2 k2 hex hx hlv
    obtain ⟨l1, hA⟩ := hs.ok.ex _ _ _ _ _ _ _ _ _ _ _ hex
    have hk : k1 = k2 := lv_mono hlv
    subst hk
    refine wpIn_mono (hA body hint.gm fn.ntmps hint.bd hb hnt φ w _ Fence.wide hT1 DRs.nil rfl hh hn) ?_
    rintro e a2 w2 ⟨rfl, φ2, hT2, hD2, hA2⟩
    have := lv_run hq hrs D1 h2 hlv φ2 a2.tmps a2.defers w2 (RetTo P dyn φ h w k v h1 k1) hT2 hD2 hA2.hr (fun v' w3 hv hA3 => ⟨v', φ2, rfl, hv, Aft.trans l1 (Nat.le_refl _) hA2 hA3⟩)
    rcases hx with rfl | rfl <;> exact this
  split at he
  · rename_i hex; exact body_ok _ _ _ _ _ hex (.inl rfl) he
  · rename_i hex; exact body_ok _ _ _ _ _ hex (.inr rfl) he
  · cases he
  · cases he
end
end Go.Ev
namespace Go.Ev
open Go

theorem self_ok0 {P : Program} {dyn : List TypeId} (hdr : ∀ s, SfOk P dyn s → SfMono s → DrOk P dyn s) {T : TT CFn} {quiet : Pos → Bool} (hT : TblOk P dyn T) (hq : QuietOk P quiet) : ∀ n, SfAll P dyn (self T quiet n)
  | 0 => by
    have h1 : SfOk P dyn (self T quiet 0) := by
      constructor
      · intro f l h k v h1 k1 he
        have he : RV.bad 71 = .go v h1 k1 := he
        cases he
      · intro c rd F D h k x F1 D1 h1 k1 he
        have he : R.bad 70 = .go x F1 D1 h1 k1 := he
        cases he
    refine ⟨h1, self_mono T quiet 0, ?_, hdr _ h1 (self_mono T quiet 0)⟩
    intro c rd F D h k x F1 D1 h1 k1 he
    have he : R.bad 70 = .go x F1 D1 h1 k1 := he
    cases he
  | n + 1 => by
    have ih := self_ok0 hdr hT hq n
    have h1 : SfOk P dyn (self T quiet (n + 1)) := by
      constructor
      · exact stC_ok hT hq ih
      · intro c rd F D h k x F1 D1 h1 k1 he
        refine ⟨stX_mono ih.mono he, fun code gm nt hint hc hnt => ?_⟩
        exact stX_ok ih hnt (fun f ps a b x y cf h1 h2 h3 h4 => rf_ok ih hnt f ps a b x y cf h1 h2 h3 h4) code hint c hc rd F D h k x F1 D1 h1 k1 he
    exact ⟨h1, self_mono T quiet (n + 1), lo_ok ih, hdr _ h1 (self_mono T quiet (n + 1))⟩

/-- a call that the evaluator has run. -/
theorem self_calls0 {P : Program} {dyn : List TypeId} (hdr : ∀ s, SfOk P dyn s → SfMono s → DrOk P dyn s) {T : TT CFn} {quiet : Pos → Bool} (hT : TblOk P dyn T) (hq : QuietOk P quiet) {n : Nat} {f : Pos} {l : List AV} {h : TT AO} {k : Pos} {v : AV} {h1 : TT AO} {k1 : Pos}
    (he : (self T quiet n).ca f l h k = .go v h1 k1) (φ : Phi) (w : World) (args : Array Value) (ha : VRs φ l args.toList) (hh : HR P dyn φ (fun p => h.get p) w) (hn : ∀ n : Pos, k.num ≤ n.num → φ n = none) :
    Calls P (f.num - 1) args w (RetTo P dyn φ h w k v h1 k1) :=
  callsIn_wide.1 (((self_ok0 hdr hT hq n).ok.ca _ _ _ _ _ _ _ he).2.2 φ w args ha hh (fun m a _ => hn m a))
end Go.Ev
namespace Go.Ev
open Go

/-- from (h, k) to (h1, k1) no blocks have come but between k and k1. -/
structure Rl (h : TT AO) (k : Pos) (h1 : TT AO) (k1 : Pos) : Prop where
  le : k.num ≤ k1.num
  dm : ∀ p o, h1.get p = some o → (∃ o', h.get p = some o') ∨ (k.num ≤ p.num ∧ p.num < k1.num)
theorem Rl.refl (h : TT AO) (k : Pos) : Rl h k h k := ⟨Nat.le_refl _, fun _ o h => .inl ⟨o, h⟩⟩
theorem Rl.trans {h h1 h2 : TT AO} {k k1 k2 : Pos} (a : Rl h k h1 k1) (b : Rl h1 k1 h2 k2) : Rl h k h2 k2 :=
  ⟨Nat.le_trans a.le b.le, fun p o hp => by
    rcases b.dm p o hp with ⟨o', h'⟩ | ⟨x, y⟩
    · rcases a.dm p o' h' with h'' | ⟨x, y⟩
      · exact .inl h''
      · exact .inr ⟨x, Nat.lt_of_lt_of_le y b.le⟩
    · exact .inr ⟨Nat.le_trans a.le x, y⟩⟩
theorem Rl.put {h : TT AO} {n : Pos} {o' : AO} (hn : h.get n = some o') (o : Option AO) (k : Pos) : Rl h k (h.put n o) k :=
  ⟨Nat.le_refl _, fun p x hp => by
    rw [get_put] at hp
    split at hp
    · rename_i e; subst e; exact .inl ⟨_, hn⟩
    · exact .inl ⟨x, hp⟩⟩
theorem Rl.kill (h : TT AO) (n k : Pos) : Rl h k (h.put n none) k :=
  ⟨Nat.le_refl _, fun p x hp => by
    rw [get_put] at hp
    split at hp
    · cases hp
    · exact .inl ⟨x, hp⟩⟩
theorem Rl.new (h : TT AO) (k : Pos) (o : Option AO) : Rl h k (h.put k o) k.succ :=
  ⟨by rw [Pos.num_succ]; omega, fun p x hp => by
    rw [get_put] at hp
    split at hp
    · rename_i e; subst e; exact .inr ⟨Nat.le_refl _, by rw [Pos.num_succ]; omega⟩
    · exact .inl ⟨x, hp⟩⟩
theorem wrt_rl {h h1 : TT AO} {n : Pos} {off : Nat} {vs : List AV} (hw : wrt h n off vs = some h1) (k : Pos) : Rl h k h1 k := by
  unfold wrt at hw
  split at hw
  · rename_i hn
    split at hw <;> cases hw
    exact Rl.put hn _ k
  · cases hw
theorem upd_rl {e : ESh} {h h1 : TT AO} {m x v : AV} (hw : upd e h m x v = some h1) (k : Pos) : Rl h k h1 k := by
  unfold upd at hw
  split at hw
  · split at hw
    · rename_i hn
      split at hw
      · split at hw
        · rcases cond_eq_true hw with ⟨_, hw⟩ | ⟨_, hw⟩ <;> cases hw
          exact Rl.put hn _ k
        · cases hw
      · cases hw; exact Rl.put hn _ k
      · cases hw
    · cases hw
  · cases hw
theorem apnd_rl {esz bytes : Nat} {h : TT AO} {k : Pos} {a b v : AV} {hp : TT AO} {k1 : Pos} (hw : apnd esz bytes h k a b = some (v, hp, k1)) : Rl h k hp k1 := by
  unfold apnd at hw
  split at hw
  · cases hw
  split at hw
  · cases hw
  rcases cond_eq_true hw with ⟨_, hw⟩ | ⟨_, hw⟩
  · cases hw
  cases a with
  | sz =>
    rcases cond_eq_true hw with ⟨_, hw⟩ | ⟨_, hw⟩
    · cases hw; exact Rl.refl _ _
    · rcases cond_eq_true hw with ⟨_, hw⟩ | ⟨_, hw⟩ <;> cases hw; exact Rl.new _ _ _
  | sl nm off l c =>
    rcases cond_eq_true hw with ⟨_, hw⟩ | ⟨_, hw⟩
    · split at hw
      · rename_i h2; cases hw; exact wrt_rl h2 k
      · cases hw
    · split at hw
      · rcases cond_eq_true hw with ⟨_, hw⟩ | ⟨_, hw⟩ <;> cases hw; exact Rl.new _ _ _
      · cases hw
  | su nm off l c =>
    rcases cond_eq_true hw with ⟨_, hw⟩ | ⟨_, hw⟩
    · cases hw; exact Rl.refl _ _
    · split at hw
      · rcases cond_eq_true hw with ⟨_, hw⟩ | ⟨_, hw⟩ <;> cases hw; exact (Rl.kill _ _ _).trans (Rl.new _ _ _)
      · cases hw
  | se nm =>
    rcases cond_eq_true hw with ⟨_, hw⟩ | ⟨_, hw⟩ <;> cases hw; exact Rl.refl _ _
  | _ => cases hw

structure SfRl (s : Sf) : Prop where
  ca : ∀ f l h k v h1 k1, s.ca f l h k = .go v h1 k1 → Rl h k h1 k1
  ex : ∀ c rd F D h k x F1 D1 h1 k1, s.ex c rd F D h k = .go x F1 D1 h1 k1 → Rl h k h1 k1

section
variable {s : Sf} (hs : SfRl s)
include hs

theorem callV_rl {fv : AV} {l : List AV} {h : TT AO} {k : Pos} {v : AV} {h1 : TT AO} {k1 : Pos} (he : callV s fv l h k = .go v h1 k1) : Rl h k h1 k1 := by
  unfold callV at he
  split at he
  · exact hs.ca _ _ _ _ _ _ _ he
  · split at he
    · split at he
      · split at he
        · rename_i hea
          have h1 := hs.ex _ _ _ _ _ _ _ _ _ _ _ hea
          split at he
          · rename_i hn2
            split at he
            · rename_i heb
              have h2 := hs.ex _ _ _ _ _ _ _ _ _ _ _ heb
              split at he
              · rename_i hn3
                split at he <;> cases he <;> exact (h1.trans ((Rl.put hn2 _ _).trans h2)).trans (Rl.put hn3 _ _)
              · cases he
            · cases he
          · cases he
        · cases he
        · cases he
      · cases he
    · cases he
  · cases he

theorem evEf_rl {ρ : Rho} {p : EfOp} {D : List AD} {h : TT AO} {k : Pos} {K : KT} {x : X} {F' : TT AV} {D' : List AD} {h' : TT AO} {k' : Pos} (he : evEf s ρ p D h k K = .go x F' D' h' k') :
    ∃ v D1 h1 k1, Rl h k h1 k1 ∧ K v D1 h1 k1 = .go x F' D' h' k' := by
  cases p with
  | iv t r l =>
    simp only [evEf] at he
    split at he
    · rw [each_find] at he
      split at he
      · split at he
        · split at he
          · rename_i hca; exact ⟨_, _, _, _, hs.ca _ _ _ _ _ _ _ hca, he⟩
          · cases he
        · split at he
          · split at he
            · rename_i hca; exact ⟨_, _, _, _, hs.ca _ _ _ _ _ _ _ hca, he⟩
            · cases he
          · cases he
      · cases he
    · cases he
  | ca f l =>
    simp only [evEf] at he
    split at he
    · split at he
      · rename_i hca; exact ⟨_, _, _, _, callV_rl hs hca, he⟩
      · cases he
    · cases he
  | ap a b c d =>
    simp only [evEf] at he
    split at he
    · split at he
      · rename_i hw
        exact ⟨_, _, _, _, apnd_rl hw, he⟩
      · cases he
    · cases he
  | _ =>
    simp only [evEf] at he
    repeat' first
      | (cases he; done)
      | exact ⟨_, _, _, _, Rl.refl _ _, he⟩
      | exact ⟨_, _, _, _, Rl.new _ _ _, he⟩
      | exact ⟨_, _, _, _, Rl.put (by assumption) _ _, he⟩
      | exact ⟨_, _, _, _, wrt_rl (by assumption) _, he⟩
      | exact ⟨_, _, _, _, upd_rl (by assumption) _, he⟩
      | (split at he)
      | (rcases cond_eq_true he with ⟨_, he⟩ | ⟨_, he⟩)

theorem evOp_rl {ρ : Rho} {p : COp} {D : List AD} {h : TT AO} {k : Pos} {K : KT} {x : X} {F' : TT AV} {D' : List AD} {h' : TT AO} {k' : Pos} (he : evOp s ρ p D h k K = .go x F' D' h' k') :
    ∃ v D1 h1 k1, Rl h k h1 k1 ∧ K v D1 h1 k1 = .go x F' D' h' k' := by
  cases p with
  | ef p => exact evEf_rl hs he
  | _ =>
    simp only [evOp] at he
    repeat' first
      | (cases he; done)
      | exact ⟨_, _, _, _, Rl.refl _ _, he⟩
      | exact ⟨_, _, _, _, Rl.new _ _ _, he⟩
      | exact ⟨_, _, _, _, Rl.put (by assumption) _ _, he⟩
      | exact ⟨_, _, _, _, wrt_rl (by assumption) _, he⟩
      | exact ⟨_, _, _, _, upd_rl (by assumption) _, he⟩
      | (split at he)
theorem evG_rl {ρ : Rho} {r : RI} {D : List AD} {h : TT AO} {k : Pos} {K : KT} {x : X} {F' : TT AV} {D' : List AD} {h' : TT AO} {k' : Pos} (he : evG s ρ r D h k K = .go x F' D' h' k') :
    ∃ v D1 h1 k1, Rl h k h1 k1 ∧ K v D1 h1 k1 = .go x F' D' h' k' := by
  unfold evG at he
  split at he
  · exact evOp_rl hs he
  · split at he
    · rcases cond_eq_true he with ⟨_, he⟩ | ⟨_, he⟩
      · exact evOp_rl hs he
      · exact ⟨_, _, _, _, Rl.refl _ _, he⟩
    · exact ⟨_, _, _, _, Rl.refl _ _, he⟩
    · cases he

omit hs in
theorem evG_rd {ρ : Rho} {r : RI} {o : RdOp} (hr : r.o = .rd o) {D : List AD} {h : TT AO} {k : Pos} {K : KT} {x : X} {F' : TT AV} {D' : List AD} {h' : TT AO} {k' : Pos} (he : evG s ρ r D h k K = .go x F' D' h' k') : ∃ v D1, K v D1 h k = .go x F' D' h' k' := by
  have op : evOp s ρ r.o D h k K = .go x F' D' h' k' → ∃ v D1, K v D1 h k = .go x F' D' h' k' := by
    intro he
    rw [hr] at he
    simp only [evOp] at he
    split at he
    · exact ⟨_, _, he⟩
    · cases he
  unfold evG at he
  split at he
  · exact op he
  · split at he
    · rcases cond_eq_true he with ⟨_, he⟩ | ⟨_, he⟩
      · exact op he
      · exact ⟨_, _, he⟩
    · exact ⟨_, _, he⟩
    · cases he
theorem run_rl : ∀ (l : List RI) {F : TT AV} {L : List AV} {D : List AD} {h : TT AO} {k : Pos} {x : X} {F' : TT AV} {D' : List AD} {h' : TT AO} {k' : Pos}, run s l F L D h k = .go x F' D' h' k' → Rl h k h' k'
  | [], _, _, _, _, _, _, _, _, _, _, he => by cases he; exact Rl.refl _ _
  | r :: l, _, _, _, _, _, _, _, _, _, _, he => by
    obtain ⟨v, D1, h1, k1, h2, h3⟩ := evG_rl hs he
    rw [frc_eq] at h3
    split at h3
    · exact Rl.trans h2 (run_rl l h3)
    · exact Rl.trans h2 (run_rl l h3)
    · exact Rl.trans h2 (run_rl l h3)
    · cases h3

theorem drun_rl {F : TT AV} {K : TT AV → List AD → TT AO → Pos → R} {x : X} {F' : TT AV} {D' : List AD} {h' : TT AO} {k' : Pos} (hK : ∀ E D h k, K E D h k = .go x F' D' h' k' → Rl h k h' k') {hb : TT AO} :
    ∀ (l : List RI) {E : TT AV} {D : List AD} {h : TT AO} {k : Pos}, drun s F K hb l E D h k = .go x F' D' h' k' → Rl h k h' k'
  | [], _, _, _, _, he => hK _ _ _ _ he
  | r :: l, E, D, h, k, he => by
    change (match r.d with
      | .ex p => (match E.get p, r.o with
        | none, .rd _ => evG s (rv F [] E) r D hb k fun v D _ k => frc v fun v => drun s F K hb l (E.put p (some v)) D h k
        | none, _ => evG s (rv F [] E) r D h k fun v D h k => frc v fun v => drun s F K hb l (E.put p (some v)) D h k
        | some _, _ => .bad 48)
      | _ => .bad 45) = _ at he
    split at he
    · split at he
      · rename_i hrd
        obtain ⟨v, D1, h3⟩ := evG_rd hrd he
        rw [frc_eq] at h3
        exact drun_rl hK l h3
      · obtain ⟨v, D1, h1, k1, h2, h3⟩ := evG_rl hs he
        rw [frc_eq] at h3
        exact Rl.trans h2 (drun_rl hK l h3)
      · cases he
    · cases he
theorem dph_rl {F : TT AV} {gs : List (Pos × Pos)} {x : X} {F' : TT AV} {D' : List AD} {h' : TT AO} {k' : Pos} : ∀ (ph : List Ph) {E : TT AV} {D : List AD} {h : TT AO} {k : Pos}, dph s F gs ph E D h k = .go x F' D' h' k' → Rl h k h' k'
  | [], E, D, h, k, he => by
    have he : dend F gs E D h k = _ := he
    obtain ⟨_, _, h3, h4⟩ := dph_end he
    rw [h3, h4]; exact Rl.refl _ _
  | p :: ph, E0, D0, h0, k0, he => by
    change drun s F (fun E D h k => cond (chkAll E F h p.c) (drun s F (dph s F gs ph) h p.l E D h k) (.bad 47)) h0 [p.e] E0 D0 h0 k0 = _ at he
    refine drun_rl hs (fun E D h k hk => ?_) [p.e] he
    rcases cond_eq_true hk with ⟨_, hk⟩ | ⟨_, hk⟩
    · exact drun_rl hs (fun E D h k hk => dph_rl ph hk) p.l hk
    · cases hk

theorem stX_rl {c : CC} {rd : Option Pos} {F : TT AV} {D : List AD} {h : TT AO} {k : Pos} {x : X} {F1 : TT AV} {D1 : List AD} {h1 : TT AO} {k1 : Pos} (he : stX s c rd F D h k = .go x F1 D1 h1 k1) : Rl h k h1 k1 := by
  cases c with
  | sq a b =>
    simp only [stX] at he
    split at he
    · rename_i h2; exact Rl.trans (hs.ex _ _ _ _ _ _ _ _ _ _ _ h2) (hs.ex _ _ _ _ _ _ _ _ _ _ _ he)
    · exact hs.ex _ _ _ _ _ _ _ _ _ _ _ he
  | cd c a b =>
    simp only [stX] at he
    split at he
    · exact hs.ex _ _ _ _ _ _ _ _ _ _ _ he
    · exact hs.ex _ _ _ _ _ _ _ _ _ _ _ he
    · cases he
  | bk id a =>
    simp only [stX] at he
    split at he
    · rename_i h2
      rcases cond_eq_true he with ⟨_, he⟩ | ⟨_, he⟩ <;> cases he <;> exact hs.ex _ _ _ _ _ _ _ _ _ _ _ h2
    · exact hs.ex _ _ _ _ _ _ _ _ _ _ _ he
  | lo a =>
    simp only [stX] at he
    split at he
    · rename_i h2; exact Rl.trans (hs.ex _ _ _ _ _ _ _ _ _ _ _ h2) (hs.ex _ _ _ _ _ _ _ _ _ _ _ he)
    · exact hs.ex _ _ _ _ _ _ _ _ _ _ _ he
  | rf f ps a b =>
    simp only [stX] at he
    split at he
    · split at he
      · split at he
        · rename_i hcv
          have h3 := callV_rl hs hcv
          split at he
          · cases he
          · rename_i hg
            split at he <;> cases he <;> exact (((Rl.new _ _ _).trans (Rl.new _ _ _)).trans h3).trans (Rl.put hg _ _)
          · cases he
        · cases he
      · split at he
        · split at he
          · rename_i hcv
            have h3 := callV_rl hs hcv
            split at he
            · cases he
            · rename_i hg
              split at he <;> cases he <;> exact ((Rl.new _ _ _).trans h3).trans (Rl.put hg _ _)
            · cases he
          · cases he
        · cases he
    · cases he
  | rg l => exact run_rl hs l he
  | dr l ph gs => exact drun_rl hs (fun E D h k hk => dph_rl hs ph hk) l he
  | sc a => exact hs.ex _ _ _ _ _ _ _ _ _ _ _ he
  | no => cases he
  | _ => cases he; exact Rl.refl _ _

omit hs in
theorem lv_rl {quiet : Pos → Bool} {F : TT AV} {rs : List CR} {k : Pos} : ∀ {D : List AD} {h : TT AO} {v : AV} {h1 : TT AO} {k1 : Pos}, lv quiet F rs k D h = .go v h1 k1 → Rl h k h1 k1
  | [], h, v, h1, k1, he => by
    change (match res F h rs with | some [v] => RV.go v h k | some l => .go (.tu l) h k | none => .bad 60) = _ at he
    split at he <;> cases he <;> exact Rl.refl _ _
  | d :: D, h, v, h1, k1, he => by
    cases d with
    | mk n =>
      change (match h.get n with | some .df => lv quiet F rs k D (h.put n (some .dd)) | _ => .bad 61) = _ at he
      split at he
      · rename_i hn; exact (Rl.put hn _ _).trans (lv_rl he)
      · cases he
    | fn f l =>
      change cond (quiet f) (lv quiet F rs k D h) (.bad 62) = _ at he
      rcases cond_eq_true he with ⟨_, he⟩ | ⟨_, he⟩
      · exact lv_rl he
      · cases he
    | rnd => cases he
theorem stC_rl {T : TT CFn} {quiet : Pos → Bool} {f : Pos} {l : List AV} {h : TT AO} {k : Pos} {v : AV} {h1 : TT AO} {k1 : Pos} (he : stC T quiet s f l h k = .go v h1 k1) : Rl h k h1 k1 := by
  unfold stC at he
  split at he
  · split at he
    · split at he
      · rename_i h2
        exact (hs.ex _ _ _ _ _ _ _ _ _ _ _ h2).trans (lv_rl he)
      · rename_i h2
        exact (hs.ex _ _ _ _ _ _ _ _ _ _ _ h2).trans (lv_rl he)
      · cases he
      · cases he
    · cases he
  · cases he
end

theorem self_rl (T : TT CFn) (quiet : Pos → Bool) : ∀ n, SfRl (self T quiet n)
  | 0 => by
    constructor
    · intro f l h k v h1 k1 he
      have he : RV.bad 71 = .go v h1 k1 := he
      cases he
    · intro c rd F D h k x F1 D1 h1 k1 he
      have he : R.bad 70 = .go x F1 D1 h1 k1 := he
      cases he
  | n + 1 => ⟨fun _ _ _ _ _ _ _ h => stC_rl (self_rl T quiet n) h, fun _ _ _ _ _ _ _ _ _ _ _ h => stX_rl (self_rl T quiet n) h⟩
end Go.Ev
namespace Go.Ev
open Go

/-- one memory over another. -/
def ovr (A B : Pos → Option AO) : Pos → Option AO := fun p => match A p with | some o => some o | none => B p

section
variable {P : Program} {dyn : List TypeId} {φ φ1 : Phi} {h1 h2 : TT AO} {w w1 : World} {k k1 : Pos}

theorem frame {H rest : Pos → Option AO} (hh : HR P dyn φ H w) (hp : ∀ p o, h1.get p = some o → H p = some o) (hr : ∀ p o, rest p = some o → H p = some o ∧ h1.get p = none)
    (ha : Aft P dyn φ h1 w k φ1 h2 w1 k1) (hle : φ.le φ1) : HR P dyn φ1 (ovr rest fun p => h2.get p) w1 ∧ Ext φ H w φ1 (ovr rest fun p => h2.get p) w1 := by
  have keep : ∀ p o, rest p = some o → ∃ L ob, φ p = some L ∧ w.heap[L.b]? = some ob ∧ OR P dyn φ L o ob ∧ L.b < w.heap.size ∧ ¬ Img φ (fun p => h1.get p) L.b := by
    intro p o hpo
    obtain ⟨hH, hn⟩ := hr p o hpo
    obtain ⟨L, ob, e1, e2, e3⟩ := hh.blk p o hH
    refine ⟨L, ob, e1, e2, e3, (Array.getElem?_eq_some_iff.1 e2).1, ?_⟩
    rintro ⟨n, o', L', hn1, hL', hb⟩
    have : n = p := hh.inj n p o' o L' L (hp n o' hn1) hH hL' e1 hb
    subst this
    have hn1 : h1.get n = some o' := hn1
    rw [hn] at hn1
    cases hn1
  have ovrc : ∀ p o, ovr rest (fun p => h2.get p) p = some o → rest p = some o ∨ (rest p = none ∧ h2.get p = some o) := by
    intro p o hpo
    unfold ovr at hpo
    cases hq : rest p with
    | some o' => rw [hq] at hpo; exact .inl hpo
    | none => rw [hq] at hpo; exact .inr ⟨rfl, hpo⟩
  have imH : ∀ b, Img φ (fun p => h1.get p) b → Img φ H b := by
    rintro b ⟨n, o, L, a, b', c⟩
    exact ⟨n, o, L, hp n o a, b', c⟩
  refine ⟨⟨fun p o hpo => ?_, fun n m o o' L L' hn hm hL hL' hb => ?_⟩, ?_⟩
  · rcases ovrc p o hpo with hq | ⟨_, hq⟩
    · obtain ⟨L, ob, e1, e2, e3, e4, e5⟩ := keep p o hq
      exact ⟨L, ob, hle _ _ e1, (ha.ex.fr _ e4 e5).trans e2, e3.mono hle⟩
    · exact ha.hr.blk p o hq
  · have mixed : ∀ (n m : Pos) (o o' : AO) (L L' : Loc), rest n = some o → h2.get m = some o' → φ1 n = some L → φ1 m = some L' → L.b = L'.b → False := by
      intro n m o o' L L' hn hm hL hL' hb
      obtain ⟨L0, ob, e1, e2, e3, e4, e5⟩ := keep n o hn
      have := hle _ _ e1
      rw [hL] at this; cases this
      exact e5 (ha.ex.im _ e4 ⟨m, o', L', hm, hL', hb.symm⟩)
    rcases ovrc n o hn with hn | ⟨_, hn⟩
    · rcases ovrc m o' hm with hm | ⟨_, hm⟩
      · obtain ⟨L0, ob, e1, _⟩ := keep n o hn
        obtain ⟨L1, ob1, f1, _⟩ := keep m o' hm
        have a1 := hle _ _ e1
        have a2 := hle _ _ f1
        rw [hL] at a1; cases a1
        rw [hL'] at a2; cases a2
        exact hh.inj n m o o' L L' (hr n o hn).1 (hr m o' hm).1 e1 f1 hb
      · exact (mixed n m o o' L L' hn hm hL hL' hb).elim
    · rcases ovrc m o' hm with hm | ⟨_, hm⟩
      · exact (mixed m n o' o L' L hm hn hL' hL hb.symm).elim
      · exact ha.hr.inj n m o o' L L' hn hm hL hL' hb
  · refine ⟨ha.ex.sz, ha.ex.os, ha.ex.out, ha.ex.tape, fun b hb hi => ha.ex.fr b hb (fun x => hi (imH b x)), fun b hb hi => ?_⟩
    obtain ⟨n, o, L, hn, hL, hbL⟩ := hi
    rcases ovrc n o hn with hn | ⟨_, hn⟩
    · obtain ⟨L0, ob, e1, _⟩ := keep n o hn
      have a1 := hle _ _ e1
      rw [hL] at a1; cases a1
      exact ⟨n, o, L, (hr n o hn).1, e1, hbL⟩
    · exact imH b (ha.ex.im b hb ⟨n, o, L, hn, hL, hbL⟩)
end

/-! ### Who comes ahead of whom -/
def bstep (acc : Array Nat) (o : Oper) : Array Nat := acc.push (o.after.foldl (fun s e => if Region.binds .any e then s ||| 2 ^ e.on ||| acc.getD e.on 0 else s) 0)
theorem before_eq (ops : Array Oper) : Region.before ops = ops.toList.foldl bstep #[] := by
  unfold Region.before
  rw [← Array.foldl_toList]
  rfl
theorem bstep_size (l : List Oper) : ∀ (acc : Array Nat), (l.foldl bstep acc).size = acc.size + l.length := by
  induction l with
  | nil => intro acc; rfl
  | cons o l ih => intro acc; rw [List.foldl_cons, ih]; simp [bstep]; omega
theorem bits_fold (acc : Array Nat) (j : Nat) : ∀ (l : List Edge) (s : Nat), (l.foldl (fun s e => if Region.binds .any e then s ||| 2 ^ e.on ||| acc.getD e.on 0 else s) s).testBit j = true →
    s.testBit j = true ∨ ∃ e ∈ l, Region.binds .any e = true ∧ (j = e.on ∨ (acc.getD e.on 0).testBit j = true)
  | [], s, h => .inl h
  | e :: l, s, h => by
    rw [List.foldl_cons] at h
    rcases bits_fold acc j l _ h with h1 | ⟨e', he', h2⟩
    · by_cases hb : Region.binds .any e = true
      · rw [if_pos hb, Nat.testBit_or, Nat.testBit_or] at h1
        simp only [Bool.or_eq_true] at h1
        rcases h1 with (h1 | h1) | h1
        · exact .inl h1
        · refine .inr ⟨e, by simp, hb, .inl ?_⟩
          rw [Nat.testBit_two_pow] at h1
          have : e.on = j := by simpa using h1
          exact this.symm
        · exact .inr ⟨e, by simp, hb, .inr h1⟩
      · rw [if_neg hb] at h1
        exact .inl h1
    · exact .inr ⟨e', by simp [he'], h2⟩
theorem before_spec : ∀ (l r : List Oper) (i : Nat) (o : Oper) (j : Nat), (l.reverse ++ r)[i]? = some o → i < l.length → ((l.reverse.foldl bstep #[]).getD i 0).testBit j = true →
    ∃ e ∈ o.after, Region.binds .any e = true ∧ (j = e.on ∨ (e.on < i ∧ ((l.reverse.foldl bstep #[]).getD e.on 0).testBit j = true))
  | [], _, _, _, _, _, hi, _ => by simp at hi
  | a :: l, r, i, o, j, ho, hi, hb => by
    have hsz : (l.reverse.foldl bstep #[]).size = l.length := by rw [bstep_size]; simp
    rw [List.reverse_cons, List.foldl_append, List.foldl_cons, List.foldl_nil] at hb ⊢
    generalize hB : l.reverse.foldl bstep #[] = B at hsz hb ⊢
    have old : ∀ m, m < l.length → (bstep B a).getD m 0 = B.getD m 0 := by
      intro m hm
      simp only [bstep, Array.getD_eq_getD_getElem?]
      rw [Array.getElem?_push, if_neg (by omega)]
    by_cases hil : i < l.length
    · rw [old i hil] at hb
      have ho' : (l.reverse ++ (a :: r))[i]? = some o := by simpa using ho
      obtain ⟨e, he, hbe, hj⟩ := before_spec l (a :: r) i o j ho' hil (by rw [hB]; exact hb)
      refine ⟨e, he, hbe, ?_⟩
      rcases hj with hj | ⟨h1, h2⟩
      · exact .inl hj
      · exact .inr ⟨h1, by rw [old e.on (by omega), ← hB]; exact h2⟩
    · have hie : i = l.length := by simp at hi; omega
      subst hie
      have hoa : o = a := by
        have : (l.reverse ++ [a] ++ r)[l.length]? = some o := by simpa using ho
        rw [List.getElem?_append_left (by simp), List.getElem?_append_right (by simp)] at this
        simp at this
        exact this.symm
      subst hoa
      have hv : (bstep B o).getD l.length 0 = o.after.foldl (fun s e => if Region.binds .any e then s ||| 2 ^ e.on ||| B.getD e.on 0 else s) 0 := by
        simp only [bstep, Array.getD_eq_getD_getElem?]
        rw [Array.getElem?_push, if_pos hsz.symm]
        rfl
      rw [hv, ← Array.foldl_toList] at hb
      rcases bits_fold B j _ _ hb with h0 | ⟨e, he, hbe, hj⟩
      · simp at h0
      · refine ⟨e, by simpa using he, hbe, ?_⟩
        rcases hj with hj | hj
        · exact .inl hj
        · have hlt : e.on < l.length := by
            rcases Nat.lt_or_ge e.on B.size with h' | h'
            · omega
            · simp [Array.getD_eq_getD_getElem?, Array.getElem?_eq_none h'] at hj
          exact .inr ⟨hlt, by rw [old e.on hlt]; exact hj⟩

/-- a set that holds whatever its members wait for holds whoever comes ahead of them. -/
theorem before_closed {ops : Array Oper} {S : Nat → Prop} (hS : ∀ i o, ops[i]? = some o → S i → ∀ e ∈ o.after, Region.binds .any e = true → S e.on) :
    ∀ (i j : Nat), i < ops.size → S i → (((Region.before ops).toList).getD i 0).testBit j = true → S j := by
  intro i
  induction i using Nat.strongRecOn with
  | _ i ih =>
    intro j hi hSi hb
    have hlist : ((Region.before ops).toList).getD i 0 = (ops.toList.foldl bstep #[]).getD i 0 := by
      rw [before_eq]
      simp [Array.getD_eq_getD_getElem?, List.getD_eq_getElem?_getD]
    rw [hlist] at hb
    have ho : ops[i]? = some ops[i] := Array.getElem?_eq_getElem hi
    have hb' : ((ops.toList.reverse.reverse.foldl bstep #[]).getD i 0).testBit j = true := by rw [List.reverse_reverse]; exact hb
    obtain ⟨e, he, hbe, hj⟩ := before_spec ops.toList.reverse [] i ops[i] j (by simp) (by simpa using hi) hb'
    have hSe := hS i _ ho hSi e he hbe
    rcases hj with rfl | ⟨hlt, hbj⟩
    · exact hSe
    · refine ih e.on hlt j (by omega) hSe ?_
      rw [List.reverse_reverse] at hbj
      rw [before_eq]
      simpa [Array.getD_eq_getD_getElem?, List.getD_eq_getElem?_getD] using hbj
end Go.Ev
namespace Go.Ev
open Go

def gYes (ρ : Rho) (g : Option (CV × Bool)) : Prop := match g with | none => True | some (c, b) => ∃ x, ρ c = some (.b x) ∧ (x == b) = true
def gNo (ρ : Rho) (g : Option (CV × Bool)) : Prop := match g with | none => False | some (c, b) => ∃ v, ρ c = some v ∧ (match v with | .b x => x == b | _ => false) = false
inductive OF (ρ : Rho) (h : TT AO) (k : Pos) : COp → AV → Option AO → Prop
  | pu (p : PuOp) (v : AV) (e : evPu ρ p = some v) : OF ρ h k (.pu p) v none
  | rd (p : RdOp) (v : AV) (e : evRd ρ h p = some v) : OF ρ h k (.rd p) v none
  | al (p : AlOp) (b : AO) (v : AV) (e : evAl ρ k p = some (b, v)) : OF ρ h k (.al p) v (some b)
/-- what is known of an operation that does not act. -/
inductive NF (ρ : Rho) (h : TT AO) (k : Pos) (r : RI) : AV → Option AO → Prop
  | no (g : gNo ρ r.g) : NF ρ h k r undf none
  | yes (v : AV) (b : Option AO) (g : gYes ρ r.g) (o : OF ρ h k r.o v b) : NF ρ h k r v b

noncomputable def putB (h : TT AO) (k : Pos) (b : Option AO) : TT AO := match b with | some b => h.put k (some b) | none => h
noncomputable def sucB (k : Pos) (b : Option AO) : Pos := match b with | some _ => k.succ | none => k

theorem evG_cases {s : Sf} {ρ : Rho} {r : RI} {D : List AD} {h : TT AO} {k : Pos} {K : KT} {x : X} {F' : TT AV} {D' : List AD} {h' : TT AO} {k' : Pos} (he : evG s ρ r D h k K = .go x F' D' h' k') :
    (gNo ρ r.g ∧ (∀ (D : List AD) (h : TT AO) (k : Pos) (K : KT), evG s ρ r D h k K = K undf D h k)) ∨ (gYes ρ r.g ∧ (∀ (D : List AD) (h : TT AO) (k : Pos) (K : KT), evG s ρ r D h k K = evOp s ρ r.o D h k K)) := by
  obtain ⟨g, o, d⟩ := r
  cases g with
  | none => exact .inr ⟨trivial, fun _ _ _ _ => rfl⟩
  | some cb =>
    obtain ⟨c, b⟩ := cb
    cases hv : ρ c with
    | none => simp only [evG, hv] at he; cases he
    | some v =>
      by_cases hb : ∃ y, v = .b y
      · obtain ⟨y, rfl⟩ := hb
        cases hyb : (y == b) with
        | true => exact .inr ⟨⟨y, hv, hyb⟩, fun D h k K => by simp only [evG, hv, hyb, cond_true]⟩
        | false => exact .inl ⟨⟨_, hv, hyb⟩, fun D h k K => by simp only [evG, hv, hyb, cond_false]⟩
      · refine .inl ⟨⟨v, hv, ?_⟩, fun D h k K => ?_⟩
        · cases v <;> first | rfl | exact absurd ⟨_, rfl⟩ hb
        · simp only [evG, hv]
          cases v <;> first | rfl | exact absurd ⟨_, rfl⟩ hb

theorem evG_nf {s : Sf} {ρ : Rho} {r : RI} {D : List AD} {h : TT AO} {k : Pos} {K : KT} {x : X} {F' : TT AV} {D' : List AD} {h' : TT AO} {k' : Pos} (hr : isEf r = false) (he : evG s ρ r D h k K = .go x F' D' h' k') :
    ∃ v b, NF ρ h k r v b ∧ K v D (putB h k b) (sucB k b) = .go x F' D' h' k' := by
  rcases evG_cases he with ⟨hg, hK⟩ | ⟨hg, hK⟩
  · rw [hK] at he
    exact ⟨undf, none, .no hg, he⟩
  · rw [hK] at he
    cases ho : r.o with
    | ef p => simp [isEf, ho] at hr
    | pu p =>
      rw [ho] at he
      simp only [evOp] at he
      split at he
      · rename_i v hv
        exact ⟨v, none, .yes v none hg (by rw [ho]; exact .pu p v hv), he⟩
      · cases he
    | rd p =>
      rw [ho] at he
      simp only [evOp] at he
      split at he
      · rename_i v hv
        exact ⟨v, none, .yes v none hg (by rw [ho]; exact .rd p v hv), he⟩
      · cases he
    | al p =>
      rw [ho] at he
      simp only [evOp] at he
      split at he
      · rename_i b v hv
        exact ⟨v, some b, .yes v (some b) hg (by rw [ho]; exact .al p b v hv), he⟩
      · cases he

/-- environments grow. -/
def EL (E E' : TT AV) : Prop := ∀ p v, E.get p = some v → E'.get p = some v
theorem EL.refl (E : TT AV) : EL E E := fun _ _ h => h
theorem EL.trans {E E1 E2 : TT AV} (a : EL E E1) (b : EL E1 E2) : EL E E2 := fun p v h => b p v (a p v h)
theorem EL.put {E : TT AV} {p : Pos} (h : E.get p = none) (v : AV) : EL E (E.put p (some v)) := fun q u hq => by
  rw [get_put]
  split
  · rename_i e; subst e; rw [h] at hq; cases hq
  · exact hq
theorem EL.rv {E E' : TT AV} (h : EL E E') (F : TT AV) {c : CV} {v : AV} (hv : rv F [] E c = some v) : rv F [] E' c = some v := by
  cases c with
  | x p => exact h _ _ hv
  | _ => exact hv

/-- what a run over operations that do not act tells. -/
inductive Tr (F : TT AV) (hb : TT AO) : List RI → TT AV → TT AO → Pos → TT AV → TT AO → Pos → Prop
  | nil (E : TT AV) (h : TT AO) (k : Pos) : Tr F hb [] E h k E h k
  | cons (r : RI) (l : List RI) (p : Pos) (E : TT AV) (h : TT AO) (k : Pos) (v : AV) (b : Option AO) (E1 : TT AV) (h1 : TT AO) (k1 : Pos) (hd : r.d = .ex p) (hE : E.get p = none)
      (hf : NF (rv F [] E) hb k r v b ∨ ((∀ q, r.o ≠ .rd q) ∧ NF (rv F [] E) h k r v b)) (t : Tr F hb l (E.put p (some v)) (putB h k b) (sucB k b) E1 h1 k1) : Tr F hb (r :: l) E h k E1 h1 k1

theorem drun_tr {s : Sf} {F : TT AV} {K : TT AV → List AD → TT AO → Pos → R} {hb : TT AO} {x : X} {F' : TT AV} {D' : List AD} {h' : TT AO} {k' : Pos} : ∀ (l : List RI) (E : TT AV) (D : List AD) (h : TT AO) (k : Pos), (∀ r ∈ l, isEf r = false) →
    drun s F K hb l E D h k = .go x F' D' h' k' → ∃ E1 h1 k1, Tr F hb l E h k E1 h1 k1 ∧ K E1 D h1 k1 = .go x F' D' h' k'
  | [], E, D, h, k, _, he => ⟨E, h, k, .nil E h k, he⟩
  | r :: l, E, D, h, k, hr, he => by
    change (match r.d with
      | .ex p => (match E.get p, r.o with
        | none, .rd _ => evG s (rv F [] E) r D hb k fun v D _ k => frc v fun v => drun s F K hb l (E.put p (some v)) D h k
        | none, _ => evG s (rv F [] E) r D h k fun v D h k => frc v fun v => drun s F K hb l (E.put p (some v)) D h k
        | some _, _ => .bad 48)
      | _ => .bad 45) = _ at he
    have hr0 := hr r (by simp)
    have hrl : ∀ r ∈ l, isEf r = false := fun q hq => hr q (by simp [hq])
    split at he
    · rename_i p hd
      split at he
      · rename_i q hE hq
        obtain ⟨v, b, hnf, hk⟩ := evG_nf hr0 he
        rw [frc_eq] at hk
        have hb0 : b = none := by
          cases hnf with
          | no g => rfl
          | yes _ _ g o => rw [hq] at o; cases o; rfl
        subst hb0
        obtain ⟨E1, h1, k1, ht, hk1⟩ := drun_tr l _ _ _ _ hrl hk
        exact ⟨E1, h1, k1, .cons r l p E h k v none E1 h1 k1 hd hE (.inl hnf) ht, hk1⟩
      · rename_i hE hne
        obtain ⟨v, b, hnf, hk⟩ := evG_nf hr0 he
        rw [frc_eq] at hk
        obtain ⟨E1, h1, k1, ht, hk1⟩ := drun_tr l _ _ _ _ hrl hk
        exact ⟨E1, h1, k1, .cons r l p E h k v b E1 h1 k1 hd hE (.inr ⟨fun q hq => hne q hq, hnf⟩) ht, hk1⟩
      · cases he
    · cases he
end Go.Ev
namespace Go.Ev
open Go

/-- the phases: operations that do not act, then one that does, and what is looked at again. -/
inductive PT (s : Sf) (F : TT AV) : List RI → List Ph → TT AV → List AD → TT AO → Pos → TT AV → List AD → TT AO → Pos → Prop
  | last (l : List RI) (E : TT AV) (D : List AD) (h : TT AO) (k : Pos) (E1 : TT AV) (h1 : TT AO) (k1 : Pos) (t : Tr F h l E h k E1 h1 k1) : PT s F l [] E D h k E1 D h1 k1
  | more (l : List RI) (ph : Ph) (r : List Ph) (E : TT AV) (D : List AD) (h : TT AO) (k : Pos) (E1 : TT AV) (h1 : TT AO) (k1 : Pos) (p : Pos) (v : AV) (D2 : List AD) (h2 : TT AO) (k2 : Pos) (Ef : TT AV) (Df : List AD) (hf : TT AO) (kf : Pos)
      (t : Tr F h l E h k E1 h1 k1) (hd : ph.e.d = .ex p) (hE : E1.get p = none) (he : ∀ K : KT, evG s (rv F [] E1) ph.e D h1 k1 K = K v D2 h2 k2)
      (hc : chkAll (E1.put p (some v)) F h2 ph.c = true) (n : PT s F ph.l r (E1.put p (some v)) D2 h2 k2 Ef Df hf kf) : PT s F l (ph :: r) E D h k Ef Df hf kf

def Nat1 (s : Sf) (r : RI) : Prop := ∀ (ρ : Rho) (D : List AD) (h : TT AO) (k : Pos) (K : KT) (x : X) (F' : TT AV) (D' : List AD) (h' : TT AO) (k' : Pos), evG s ρ r D h k K = .go x F' D' h' k' → ∃ v D1 h1 k1, ∀ K : KT, evG s ρ r D h k K = K v D1 h1 k1

theorem dph_pt {s : Sf} {F : TT AV} {gs : List (Pos × Pos)} {x : X} {F' : TT AV} {D' : List AD} {h' : TT AO} {k' : Pos} : ∀ (ph : List Ph) (l : List RI) (E : TT AV) (D : List AD) (h : TT AO) (k : Pos), (∀ r ∈ l, isEf r = false) → (∀ p ∈ ph, (∀ r ∈ p.l, isEf r = false) ∧ (∀ q, p.e.o ≠ .rd q) ∧ Nat1 s p.e) →
    drun s F (dph s F gs ph) h l E D h k = .go x F' D' h' k' → ∃ Ef Df hf kf, PT s F l ph E D h k Ef Df hf kf ∧ dend F gs Ef Df hf kf = .go x F' D' h' k'
  | [], l, E, D, h, k, hl, _, he => by
    obtain ⟨E1, h1, k1, ht, hk⟩ := drun_tr l E D h k hl he
    exact ⟨E1, D, h1, k1, .last l E D h k E1 h1 k1 ht, hk⟩
  | p :: ph, l, E, D, h, k, hl, hp, he => by
    obtain ⟨E1, h1, k1, ht, hk⟩ := drun_tr l E D h k hl he
    obtain ⟨hpl, hpr, hpn⟩ := hp p (by simp)
    change drun s F (fun E D h k => cond (chkAll E F h p.c) (drun s F (dph s F gs ph) h p.l E D h k) (.bad 47)) h1 [p.e] E1 D h1 k1 = _ at hk
    change (match p.e.d with
      | .ex q => (match E1.get q, p.e.o with
        | none, .rd _ => evG s (rv F [] E1) p.e D h1 k1 fun v D _ k => frc v fun v => cond (chkAll (E1.put q (some v)) F h1 p.c) (drun s F (dph s F gs ph) h1 p.l (E1.put q (some v)) D h1 k) (.bad 47)
        | none, _ => evG s (rv F [] E1) p.e D h1 k1 fun v D h k => frc v fun v => cond (chkAll (E1.put q (some v)) F h p.c) (drun s F (dph s F gs ph) h p.l (E1.put q (some v)) D h k) (.bad 47)
        | some _, _ => .bad 48)
      | _ => .bad 45) = _ at hk
    split at hk
    · rename_i q hd
      split at hk
      · rename_i o _ ho
        exact (hpr _ ho).elim
      · rename_i hE _
        obtain ⟨v, D2, h2, k2, hK⟩ := hpn _ _ _ _ _ _ _ _ _ _ hk
        replace hk := (hK _).symm.trans hk
        simp only [frc_eq] at hk
        rcases cond_eq_true hk with ⟨hc, hk⟩ | ⟨_, hk⟩
        · obtain ⟨Ef, Df, hf, kf, hpt, hfin⟩ := dph_pt ph p.l _ D2 h2 k2 hpl (fun q hq => hp q (by simp [hq])) hk
          exact ⟨Ef, Df, hf, kf, .more l p ph E D h k E1 h1 k1 q v D2 h2 k2 Ef Df hf kf ht hd hE hK hc hpt, hfin⟩
        · cases hk
      · cases hk
    · cases hk

/-! ### Two values the same -/
theorem posSame_eq {p q : Pos} (h : p.same q = true) : p = q := Pos.same_iff h
theorem same_eq : ∀ (n : Nat) (x y : AV), same n x y = true → x = y
  | 0, x, y, h => by cases h
  | n + 1, x, y, h => by
    have all_eq : ∀ (l l' : List AV), each (fun ys => match ys with | [] => true | _ => false) (fun x r ys => match ys with | y :: ys => same n x y && r ys | [] => false) l l' = true → l = l' := by
      intro l
      induction l with
      | nil => intro l' h; cases l' with | nil => rfl | cons _ _ => cases h
      | cons x l ih =>
        intro l' h
        cases l' with
        | nil => cases h
        | cons y l' =>
          have h := Bool.and_eq_true_iff.1 (show (same n x y && each (fun ys => match ys with | [] => true | _ => false) (fun x r ys => match ys with | y :: ys => same n x y && r ys | [] => false) l l') = true from h)
          rw [same_eq n x y h.1, ih l' h.2]
    have eqLL : ∀ (a b : List Nat), eqL a b = true → a = b := by
      intro a
      induction a with
      | nil => intro b h; cases b with | nil => rfl | cons _ _ => cases h
      | cons x a ih =>
        intro b h
        cases b with
        | nil => cases h
        | cons y b =>
          have h := Bool.and_eq_true_iff.1 (show (Nat.beq x y && eqL a b) = true from h)
          have h1 := h.1
          rw [beq_iff] at h1
          rw [ih b h.2, show x = y by simpa using h1]
    change (match (generalizing := false) x, y with
      | .b x, .b y => x == y
      | .i k a, .i k' b => decide (k = k') && eqI a b
      | .s a, .s b => eqL a b
      | .p n o, .p n' o' => n.same n' && Nat.beq o o'
      | .pz, .pz | .sz, .sz | .mz, .mz | .fz, .fz | .iz, .iz => true
      | .sl n a b c, .sl n' a' b' c' => n.same n' && Nat.beq a a' && Nat.beq b b' && Nat.beq c c'
      | .su n a b c, .su n' a' b' c' => n.same n' && Nat.beq a a' && Nat.beq b b' && Nat.beq c c'
      | .m n, .m n' | .fy n, .fy n' | .se n, .se n' => n.same n'
      | .oi k, .oi k' => decide (k = k')
      | .f m a b, .f m' a' b' => m.same m' && each (fun ys => match ys with | [] => true | _ => false) (fun x r ys => match ys with | y :: ys => same n x y && r ys | [] => false) a a' && each (fun ys => match ys with | [] => true | _ => false) (fun x r ys => match ys with | y :: ys => same n x y && r ys | [] => false) b b'
      | .ic t v, .ic t' v' => Nat.beq t t' && same n v v'
      | .ag l, .ag l' | .tu l, .tu l' => each (fun ys => match ys with | [] => true | _ => false) (fun x r ys => match ys with | y :: ys => same n x y && r ys | [] => false) l l'
      | _, _ => false) = true at h
    split at h
    · rw [eq_of_beq h]
    · simp only [Bool.and_eq_true, eqI_eq] at h
      rw [of_decide_eq_true h.1, eq_of_beq h.2]
    · rw [eqLL _ _ h]
    · simp only [Bool.and_eq_true] at h
      rw [posSame_eq h.1, Nat.eq_of_beq_eq_true h.2]
    · rfl
    · rfl
    · rfl
    · rfl
    · rfl
    · simp only [Bool.and_eq_true] at h
      obtain ⟨⟨⟨h1, h2⟩, h3⟩, h4⟩ := h
      rw [posSame_eq h1, Nat.eq_of_beq_eq_true h2, Nat.eq_of_beq_eq_true h3, Nat.eq_of_beq_eq_true h4]
    · simp only [Bool.and_eq_true] at h
      obtain ⟨⟨⟨h1, h2⟩, h3⟩, h4⟩ := h
      rw [posSame_eq h1, Nat.eq_of_beq_eq_true h2, Nat.eq_of_beq_eq_true h3, Nat.eq_of_beq_eq_true h4]
    · rw [posSame_eq h]
    · rw [posSame_eq h]
    · rw [posSame_eq h]
    · rw [of_decide_eq_true h]
    · obtain ⟨h12, h3⟩ := Bool.and_eq_true_iff.1 h
      obtain ⟨h1, h2⟩ := Bool.and_eq_true_iff.1 h12
      rw [posSame_eq h1, all_eq _ _ h2, all_eq _ _ h3]
    · obtain ⟨h1, h2⟩ := Bool.and_eq_true_iff.1 h
      rw [Nat.eq_of_beq_eq_true h1, same_eq n _ _ h2]
    · rw [all_eq _ _ h]
    · rw [all_eq _ _ h]
    · cases h
end Go.Ev
namespace Go.Ev
open Go

theorem EL.le_put {E E1 : TT AV} {p : Pos} {v : AV} (h : EL (E.put p (some v)) E1) : E1.get p = some v := h p v (by rw [get_put, if_pos rfl])

/-- an operation of a trace: its value, its block and name. -/
structure TF (F : TT AV) (hb : TT AO) (k : Pos) (E1 : TT AV) (h1 : TT AO) (k1 : Pos) (r : RI) (p : Pos) (v : AV) (kt : Pos) (b : Option AO) : Prop where
  d : r.d = .ex p
  e : E1.get p = some v
  f : ∃ Et ht, EL Et E1 ∧ (NF (rv F [] Et) hb kt r v b ∨ ((∀ q, r.o ≠ .rd q) ∧ NF (rv F [] Et) ht kt r v b))
  n : ∀ o, b = some o → h1.get kt = some o ∧ k.num ≤ kt.num ∧ kt.num < k1.num

theorem putB_get {h : TT AO} {k p : Pos} {b : Option AO} (hp : p ≠ k) : (putB h k b).get p = h.get p := by
  cases b with
  | none => rfl
  | some o => simp only [putB]; rw [get_put, if_neg hp]
theorem sucB_le (k : Pos) (b : Option AO) : k.num ≤ (sucB k b).num := by
  cases b with
  | none => exact Nat.le_refl _
  | some o => simp only [sucB]; rw [Pos.num_succ]; omega

theorem Tr.facts {F : TT AV} {hb : TT AO} {l : List RI} {E : TT AV} {h : TT AO} {k : Pos} {E1 : TT AV} {h1 : TT AO} {k1 : Pos} (t : Tr F hb l E h k E1 h1 k1) :
    EL E E1 ∧ k.num ≤ k1.num ∧ (∀ p : Pos, p.num < k.num → h1.get p = h.get p) ∧ (∀ p : Pos, k1.num ≤ p.num → h1.get p = h.get p) ∧
      (∀ r ∈ l, ∃ p v kt b, TF F hb k E1 h1 k1 r p v kt b) ∧
      (∀ p o, h1.get p = some o → h.get p = some o ∨ ∃ r ∈ l, ∃ q v, TF F hb k E1 h1 k1 r q v p (some o)) := by
  induction t with
  | nil E h k => exact ⟨EL.refl _, Nat.le_refl _, fun _ _ => rfl, fun _ _ => rfl, fun r hr => by simp at hr, fun p o h => .inl h⟩
  | cons r l p E h k v b E1 h1 k1 hd hE hf t ih =>
    obtain ⟨i1, i2, i3, i3', i4, i5⟩ := ih
    have hk := sucB_le k b
    have up : ∀ r' q u kt b', TF F hb (sucB k b) E1 h1 k1 r' q u kt b' → TF F hb k E1 h1 k1 r' q u kt b' := fun r' q u kt b' f =>
      ⟨f.d, f.e, f.f, fun o ho => let ⟨a, c, d⟩ := f.n o ho; ⟨a, Nat.le_trans hk c, d⟩⟩
    have here : TF F hb k E1 h1 k1 r p v k b := by
      refine ⟨hd, EL.le_put i1, ⟨E, h, (EL.put hE v).trans i1, hf⟩, fun o ho => ?_⟩
      subst ho
      have hlt : k.num < (sucB k (some o)).num := by simp only [sucB]; rw [Pos.num_succ]; omega
      refine ⟨?_, Nat.le_refl _, Nat.lt_of_lt_of_le hlt i2⟩
      rw [i3 k hlt]
      simp only [putB]
      rw [get_put, if_pos rfl]
    refine ⟨(EL.put hE v).trans i1, Nat.le_trans hk i2, fun q hq => ?_, fun q hq => ?_, fun r' hr' => ?_, fun q o hq => ?_⟩
    · rw [i3 q (Nat.lt_of_lt_of_le hq hk), putB_get (fun e => by subst e; omega)]
    · rw [i3' q hq]
      cases b with
      | none => rfl
      | some o =>
        have hlt : k.num < (sucB k (some o)).num := by simp only [sucB]; rw [Pos.num_succ]; omega
        exact putB_get (fun e => by subst e; omega)
    · rcases List.mem_cons.1 hr' with rfl | hr'
      · exact ⟨p, v, k, b, here⟩
      · obtain ⟨q, u, kt, b', f⟩ := i4 r' hr'
        exact ⟨q, u, kt, b', up _ _ _ _ _ f⟩
    · rcases i5 q o hq with hq' | ⟨r', hr', q', u, f⟩
      · by_cases hqk : q = k
        · subst hqk
          cases b with
          | none => exact .inl hq'
          | some o' =>
            simp only [putB] at hq'
            rw [get_put, if_pos rfl] at hq'
            cases hq'
            exact .inr ⟨r, by simp, p, v, here⟩
        · rw [putB_get hqk] at hq'
          exact .inl hq'
      · exact .inr ⟨r', by simp [hr'], q', u, up _ _ _ _ _ f⟩

/-! ### When -/
theorem hiOf_le (anc es : List Nat) (i : Nat) : hiOf anc es i ≤ es.length := by
  unfold hiOf
  cases h : es.findIdx? (fun e => (anc.getD e 0).testBit i) with
  | none => exact Nat.le_refl _
  | some p =>
    rw [List.findIdx?_eq_some_iff_getElem] at h
    exact Nat.le_of_lt h.1
theorem hiOf_at {anc es : List Nat} {i e : Nat} (he : es[hiOf anc es i]? = some e) : (anc.getD e 0).testBit i = true := by
  unfold hiOf at he
  cases h : es.findIdx? (fun e => (anc.getD e 0).testBit i) with
  | none => rw [h] at he; simp at he
  | some p =>
    rw [h] at he
    rw [List.findIdx?_eq_some_iff_getElem] at h
    obtain ⟨h1, h2, _⟩ := h
    simp only [Option.getD_some] at he
    rw [List.getElem?_eq_getElem h1] at he
    cases he
    exact h2
theorem loOf_le {anc es : List Nat} {i j : Nat} (h : ∀ p e, es[p]? = some e → (anc.getD i 0).testBit e = true → p < j) : loOf anc es i ≤ j := by
  unfold loOf
  rw [← List.take_append_drop j es, List.filter_append]
  have h2 : (es.drop j).filter (fun e => (anc.getD i 0).testBit e) = [] := by
    rw [List.filter_eq_nil_iff]
    intro e he hb
    obtain ⟨q, hq⟩ := List.mem_iff_getElem?.1 he
    rw [List.getElem?_drop] at hq
    have := h (j + q) e hq hb
    omega
  rw [h2, List.append_nil]
  exact Nat.le_trans (List.length_filter_le _ _) (by simp; omega)
end Go.Ev
namespace Go.Ev
open Go

abbrev AL := List (Pos × Pos × AO)
/-- what is known of an operation that does not act: its place, value, name, block. -/
def OpF (F : TT AV) (hb : TT AO) (Ef : TT AV) (A : AL) (r : RI) : Prop :=
  ∃ p v kt b Et ht, r.d = .ex p ∧ Ef.get p = some v ∧ EL Et Ef ∧ (NF (rv F [] Et) hb kt r v b ∨ ((∀ q, r.o ≠ .rd q) ∧ NF (rv F [] Et) ht kt r v b)) ∧ ∀ o, b = some o → (p, kt, o) ∈ A

/-- what is known of a block that a trace makes. -/
def AlF (F : TT AV) (Ef : TT AV) (r : RI) (a : Pos × Pos × AO) : Prop := r.d = .ex a.1 ∧ isAl r = true ∧ ∃ v Et ht, EL Et Ef ∧ NF (rv F [] Et) ht a.2.1 r v (some a.2.2)
theorem AlF.up {F E1 Ef : TT AV} {r : RI} {a : Pos × Pos × AO} (h : AlF F E1 r a) (hE : EL E1 Ef) : AlF F Ef r a := by
  obtain ⟨x, y, v, Et, ht, z, u⟩ := h
  exact ⟨x, y, v, Et, ht, z.trans hE, u⟩

theorem Tr.allocs {F : TT AV} {hb : TT AO} {l : List RI} {E : TT AV} {h : TT AO} {k : Pos} {E1 : TT AV} {h1 : TT AO} {k1 : Pos} (t : Tr F hb l E h k E1 h1 k1) :
    EL E E1 ∧ k.num ≤ k1.num ∧ ∃ A : AL, A.Pairwise (fun a b => a.2.1.num < b.2.1.num) ∧ (∀ a ∈ A, k.num ≤ a.2.1.num ∧ a.2.1.num < k1.num) ∧ (∀ r ∈ l, OpF F hb E1 A r) ∧
      (∀ a ∈ A, h1.get a.2.1 = some a.2.2 ∧ ∃ r ∈ l, AlF F E1 r a) ∧ (∀ q, (∀ a ∈ A, a.2.1 ≠ q) → h1.get q = h.get q) ∧
      A.Pairwise (fun a b => a.1 ≠ b.1) ∧ (∀ a ∈ A, E.get a.1 = none) := by
  induction t with
  | nil E h k => exact ⟨EL.refl _, Nat.le_refl _, [], .nil, fun a ha => by simp at ha, fun r hr => by simp at hr, fun a ha => by simp at ha, fun _ _ => rfl, .nil, fun a ha => by simp at ha⟩
  | cons r l p E h k v b E1 h1 k1 hd hE hf t ih =>
    obtain ⟨i1, i2, A, a1, a2, a3, a4, a5, a6, a7⟩ := ih
    have out : ∀ a ∈ A, a.1 ≠ p ∧ E.get a.1 = none := fun a ha => by
      have := a7 a ha
      rw [get_put] at this
      split at this
      · cases this
      · rename_i hne; exact ⟨hne, this⟩
    have hk := sucB_le k b
    have hEL : EL E E1 := (EL.put hE v).trans i1
    cases b with
    | none =>
      refine ⟨hEL, i2, A, a1, a2, fun r' hr' => ?_, fun a ha => ?_, a5, a6, fun a ha => (out a ha).2⟩
      · rcases List.mem_cons.1 hr' with rfl | hr'
        · exact ⟨p, v, k, none, E, h, hd, EL.le_put i1, hEL, hf, fun o ho => by cases ho⟩
        · exact a3 r' hr'
      · obtain ⟨x, r', y, z⟩ := a4 a ha
        exact ⟨x, r', by simp [y], z⟩
    | some o =>
      have hlt : k.num < (sucB k (some o)).num := by simp only [sucB]; rw [Pos.num_succ]; omega
      have hal : isAl r = true := by
        have : ∀ {ρ : Rho} {h : TT AO} {k : Pos}, NF ρ h k r v (some o) → isAl r = true := by
          intro ρ h k hn
          cases hn with
          | yes _ _ g oo =>
            unfold isAl
            cases hro : r.o <;> rw [hro] at oo <;> first | rfl | cases oo
        rcases hf with hf | ⟨_, hf⟩ <;> exact this hf
      have hh1 : h1.get k = some o := by
        rw [a5 k (fun a ha e => by have := (a2 a ha).1; rw [e] at this; omega)]
        simp only [putB]
        rw [get_put, if_pos rfl]
      refine ⟨hEL, Nat.le_trans hk i2, (p, k, o) :: A, List.pairwise_cons.2 ⟨fun a ha => by have := (a2 a ha).1; simp only; omega, a1⟩, fun a ha => ?_, fun r' hr' => ?_, fun a ha => ?_, fun q hq => ?_, List.pairwise_cons.2 ⟨fun a ha e => (out a ha).1 e.symm, a6⟩, fun a ha => ?_⟩
      · rcases List.mem_cons.1 ha with rfl | ha
        · exact ⟨Nat.le_refl _, Nat.lt_of_lt_of_le hlt i2⟩
        · exact ⟨Nat.le_trans hk (a2 a ha).1, (a2 a ha).2⟩
      · rcases List.mem_cons.1 hr' with rfl | hr'
        · exact ⟨p, v, k, some o, E, h, hd, EL.le_put i1, hEL, hf, fun o' ho => by cases ho; simp⟩
        · obtain ⟨p', v', kt, b', Et, ht, x1, x2, x3, x4, x5⟩ := a3 r' hr'
          exact ⟨p', v', kt, b', Et, ht, x1, x2, x3, x4, fun o' ho => List.mem_cons_of_mem _ (x5 o' ho)⟩
      · rcases List.mem_cons.1 ha with rfl | ha
        · refine ⟨hh1, r, by simp, hd, hal, v, E, ?_⟩
          rcases hf with hf | ⟨_, hf⟩
          · exact ⟨_, hEL, hf⟩
          · exact ⟨_, hEL, hf⟩
        · obtain ⟨x, r', y, z⟩ := a4 a ha
          exact ⟨x, r', by simp [y], z⟩
      · rw [a5 q (fun a ha => hq a (List.mem_cons_of_mem _ ha))]
        exact putB_get (fun e => hq (p, k, o) (by simp) e.symm)
      · rcases List.mem_cons.1 ha with rfl | ha
        · exact hE
        · exact (out a ha).2
end Go.Ev
namespace Go.Ev
open Go

def OpG (F : TT AV) (Ef : TT AV) (A : AL) (r : RI) : Prop :=
  ∃ p v kt b Et ht, r.d = .ex p ∧ Ef.get p = some v ∧ EL Et Ef ∧ NF (rv F [] Et) ht kt r v b ∧ ∀ o, b = some o → (p, kt, o) ∈ A
theorem OpF.g {F : TT AV} {hb : TT AO} {E1 Ef : TT AV} {A A' : AL} {r : RI} (h : OpF F hb E1 A r) (hE : EL E1 Ef) (hA : ∀ a ∈ A, a ∈ A') : OpG F Ef A' r := by
  obtain ⟨p, v, kt, b, Et, ht, x1, x2, x3, x4, x5⟩ := h
  rcases x4 with x4 | ⟨_, x4⟩
  · exact ⟨p, v, kt, b, Et, hb, x1, hE _ _ x2, x3.trans hE, x4, fun o ho => hA _ (x5 o ho)⟩
  · exact ⟨p, v, kt, b, Et, ht, x1, hE _ _ x2, x3.trans hE, x4, fun o ho => hA _ (x5 o ho)⟩
theorem OpG.more {F : TT AV} {Ef : TT AV} {A A' : AL} {r : RI} (h : OpG F Ef A r) (hA : ∀ a ∈ A, a ∈ A') : OpG F Ef A' r := by
  obtain ⟨p, v, kt, b, Et, ht, x1, x2, x3, x4, x5⟩ := h
  exact ⟨p, v, kt, b, Et, ht, x1, x2, x3, x4, fun o ho => hA _ (x5 o ho)⟩

theorem evG_le {s : Sf} (hs : SfMono s) {ρ : Rho} {r : RI} {D : List AD} {h : TT AO} {k : Pos} {v : AV} {D2 : List AD} {h2 : TT AO} {k2 : Pos} (he : ∀ K : KT, evG s ρ r D h k K = K v D2 h2 k2) : k.num ≤ k2.num := by
  have h1 := he (fun _ D h k => .go .nrm .e D h k)
  obtain ⟨v', D', h', k', a, b⟩ := evG_mono hs h1
  cases b
  exact a

theorem PT.all {s : Sf} (hs : SfMono s) {F : TT AV} {l : List RI} {phs : List Ph} {E : TT AV} {D : List AD} {h : TT AO} {k : Pos} {Ef : TT AV} {Df : List AD} {hf : TT AO} {kf : Pos} (t : PT s F l phs E D h k Ef Df hf kf) :
    EL E Ef ∧ k.num ≤ kf.num ∧ ∃ A : AL, A.Pairwise (fun a b => a.2.1.num < b.2.1.num) ∧ (∀ a ∈ A, k.num ≤ a.2.1.num ∧ a.2.1.num < kf.num) ∧ (∀ r ∈ l, OpG F Ef A r) ∧ (∀ p ∈ phs, (∀ r ∈ p.l, OpG F Ef A r) ∧ ∃ q v, p.e.d = .ex q ∧ Ef.get q = some v) := by
  induction t with
  | last l E D h k E1 h1 k1 t =>
    obtain ⟨i1, i2, A, a1, a2, a3, _, _⟩ := t.allocs
    exact ⟨i1, i2, A, a1, a2, fun r hr => (a3 r hr).g (EL.refl _) (fun _ h => h), fun p hp => by simp at hp⟩
  | more l ph r E D h k E1 h1 k1 p v D2 h2 k2 Ef Df hf kf t hd hE he hc n ih =>
    obtain ⟨i1, i2, A, a1, a2, a3, _, _⟩ := t.allocs
    obtain ⟨j1, j2, B, b1, b2, b3, b4⟩ := ih
    have hle := evG_le hs he
    have hE1 : EL E1 Ef := (EL.put hE v).trans j1
    refine ⟨i1.trans hE1, by omega, A ++ B, List.pairwise_append.2 ⟨a1, b1, fun a ha b hb => ?_⟩, fun a ha => ?_, fun q hq => (a3 q hq).g hE1 (fun a ha => List.mem_append_left _ ha), fun q hq => ?_⟩
    · have := (a2 a ha).2
      have := (b2 b hb).1
      omega
    · rcases List.mem_append.1 ha with ha | ha
      · have := a2 a ha; omega
      · have := b2 a ha; omega
    · rcases List.mem_cons.1 hq with rfl | hq
      · exact ⟨fun r hr => (b3 r hr).more (fun a ha => List.mem_append_right _ ha), p, v, hd, EL.le_put j1⟩
      · obtain ⟨c1, c2⟩ := b4 q hq
        exact ⟨fun r hr => (c1 r hr).more (fun a ha => List.mem_append_right _ ha), c2⟩
end Go.Ev
namespace Go.Ev
open Go

theorem mem_atP {anc es pw : List Nat} {ris : List RI} {k i : Nat} {r : RI} (hi : ris[i]? = some r) (h : isAt anc es pw k i r = true) : r ∈ atP anc es pw ris k := by
  unfold atP
  rw [List.mem_filterMap]
  refine ⟨i, List.mem_range.2 (List.getElem?_eq_some_iff.1 hi).1, ?_⟩
  simp only [hi, h, cond_true]
theorem of_mem_atP {anc es pw : List Nat} {ris : List RI} {k : Nat} {r : RI} (h : r ∈ atP anc es pw ris k) : ∃ i, ris[i]? = some r ∧ isAt anc es pw k i r = true := by
  unfold atP at h
  rw [List.mem_filterMap] at h
  obtain ⟨i, _, h⟩ := h
  split at h
  · rename_i r' hi
    rcases cond_eq_true h with ⟨h1, h2⟩ | ⟨_, h2⟩
    · cases h2; exact ⟨i, hi, h1⟩
    · cases h2
  · cases h
theorem mem_chkP {anc es : List Nat} {ris : List RI} {k i : Nat} {r : RI} (hi : ris[i]? = some r) (hr : isRd r = true) (hlo : loOf anc es i < k) (hhi : k ≤ hiOf anc es i) : (pos i, r) ∈ chkP anc es ris k := by
  unfold chkP
  rw [List.mem_filterMap]
  refine ⟨i, List.mem_range.2 (List.getElem?_eq_some_iff.1 hi).1, ?_⟩
  have h1 : Nat.blt (loOf anc es i) k = true := by rw [blt_iff]; simpa using hlo
  have h2 : Nat.ble k (hiOf anc es i) = true := by rw [ble_iff]; simpa using hhi
  simp only [hi, hr, h1, h2, Bool.and_self, cond_true]
theorem phP_get {anc es pw : List Nat} {ris : List RI} : ∀ (l : List Nat) (k : Nat) (j : Nat) (e : Nat), (∀ e ∈ l, ∃ r, ris[e]? = some r) → l[j]? = some e → ∃ r, ris[e]? = some r ∧ (phP anc es pw ris l k)[j]? = some ⟨r, chkP anc es ris (k + j + 1), atP anc es pw ris (k + j + 1)⟩
  | [], _, _, _, _, h => by simp at h
  | e0 :: l, k, j, e, hl, h => by
    obtain ⟨r0, hr0⟩ := hl e0 (by simp)
    simp only [phP, hr0]
    cases j with
    | zero =>
      simp at h
      subst h
      exact ⟨r0, hr0, by simp⟩
    | succ j =>
      simp at h
      obtain ⟨r, h1, h2⟩ := phP_get l (k + 1) j e (fun e he => hl e (by simp [he])) h
      refine ⟨r, h1, ?_⟩
      rw [List.getElem?_cons_succ, h2, show k + 1 + j + 1 = k + (j + 1) + 1 by omega]
end Go.Ev
namespace Go.Ev
open Go

def anc (ops : Array Oper) : List Nat := (Region.before ops).toList
def pwOf (ops : Array Oper) (ris : List RI) : List Nat := pureWhen (anc ops) (esOf ris) ris

structure DrC (P : Program) (dyn : List TypeId) (gm nt : Nat) (ops : Array Oper) (ris : List RI) : Prop where
  ri : mapO (compOpD P dyn gm nt ops.toList (anc ops)) (List.range ops.toList.length) = some ris
  chain : chainOk (anc ops) (esOf ris) = true
  dsts : dstsOk ops.toList = true
  dlt : ops.toList.all (fun o => match o.dst with | some d => Nat.blt d nt | none => true) = true
  after : afterOk ops.toList = true
  size : ops.toList.length ≤ 65536
  wh : whenOk (pwOf ops ris) (esOf ris).length ris.length = true

theorem compDraw_inv {P : Program} {dyn : List TypeId} {gm nt : Nat} {ops : Array Oper} {c : CC} (hc : compDraw P dyn gm nt ops = some c) :
    ∃ ris, DrC P dyn gm nt ops ris ∧ c = .dr (atP (anc ops) (esOf ris) (pwOf ops ris) ris 0) (phP (anc ops) (esOf ris) (pwOf ops ris) ris (esOf ris) 0) (gsP gm ops.toList) := by
  unfold compDraw at hc
  split at hc
  · cases hc
  · rename_i ris hris
    rcases cond_eq_true hc with ⟨hcond, hc⟩ | ⟨_, hc⟩
    · cases hc
      simp only [Bool.and_eq_true] at hcond
      obtain ⟨⟨⟨⟨⟨h1, h2⟩, h3⟩, h4⟩, h5⟩, h6⟩ := hcond
      rw [ble_iff] at h5
      exact ⟨ris, ⟨hris, h1, h2, h3, h4, by simpa using h5, h6⟩, rfl⟩
    · cases hc
end Go.Ev
namespace Go.Ev
open Go

theorem mapO_get {α β : Type} {f : α → Option β} : ∀ {l : List α} {r : List β}, mapO f l = some r → l.length = r.length ∧ ∀ (i : Nat) (x : α), l[i]? = some x → ∃ y, r[i]? = some y ∧ f x = some y
  | [], r, h => by cases h; exact ⟨rfl, fun i x hx => by simp at hx⟩
  | a :: l, r, h => by
    simp only [mapO] at h
    cases h1 : f a with
    | none => rw [h1] at h; cases h
    | some c =>
      rw [h1] at h
      cases h2 : mapO f l with
      | none => rw [h2] at h; cases h
      | some r' =>
        rw [h2] at h
        cases h
        obtain ⟨a1, a2⟩ := mapO_get h2
        refine ⟨by simp [a1], fun i x hx => ?_⟩
        cases i with
        | zero => simp at hx; subst hx; exact ⟨c, by simp, h1⟩
        | succ i => simp at hx; obtain ⟨y, b1, b2⟩ := a2 i x hx; exact ⟨y, by simpa using b1, b2⟩

theorem DrC.len {P : Program} {dyn : List TypeId} {gm nt : Nat} {ops : Array Oper} {ris : List RI} (h : DrC P dyn gm nt ops ris) : ris.length = ops.size := by
  have := (mapO_get h.ri).1
  simpa using this.symm
theorem DrC.at {P : Program} {dyn : List TypeId} {gm nt : Nat} {ops : Array Oper} {ris : List RI} (h : DrC P dyn gm nt ops ris) {i : Nat} {o : Oper} (ho : ops[i]? = some o) :
    ∃ r, ris[i]? = some r ∧ compOper P dyn (ocD gm nt ops.toList (anc ops) i) o = some r.o ∧ guardS (ocD gm nt ops.toList (anc ops) i) ops.toList o = some r.g ∧ r.d = .ex (pos i) := by
  have hlt : i < ops.size := (Array.getElem?_eq_some_iff.1 ho).1
  obtain ⟨r, h1, h2⟩ := (mapO_get h.ri).2 i i (by simp [hlt])
  unfold compOpD at h2
  have ho' : ops.toList[i]? = some o := by rw [Array.getElem?_toList]; exact ho
  rw [ho'] at h2
  simp only at h2
  split at h2
  · rename_i c g hc hg
    cases h2
    exact ⟨_, h1, hc, hg, rfl⟩
  · cases h2
end Go.Ev
namespace Go.Ev
open Go

/-- a phase's trace, with its blocks. -/
structure TA (F : TT AV) (hb : TT AO) (l : List RI) (E : TT AV) (h : TT AO) (k : Pos) (E1 : TT AV) (h1 : TT AO) (k1 : Pos) (A : AL) : Prop where
  el : EL E E1
  le : k.num ≤ k1.num
  up : A.Pairwise (fun a b => a.2.1.num < b.2.1.num)
  rng : ∀ a ∈ A, k.num ≤ a.2.1.num ∧ a.2.1.num < k1.num
  ops : ∀ r ∈ l, OpF F hb E1 A r
  at_ : ∀ a ∈ A, h1.get a.2.1 = some a.2.2 ∧ ∃ r ∈ l, AlF F E1 r a
  old : ∀ q, (∀ a ∈ A, a.2.1 ≠ q) → h1.get q = h.get q
  one : A.Pairwise (fun a b => a.1 ≠ b.1)
  non : ∀ a ∈ A, E.get a.1 = none

inductive PA (s : Sf) (F : TT AV) : List RI → List Ph → TT AV → List AD → TT AO → Pos → TT AV → List AD → TT AO → Pos → AL → Prop
  | last {l : List RI} {E : TT AV} {D : List AD} {h : TT AO} {k : Pos} {E1 : TT AV} {h1 : TT AO} {k1 : Pos} {A : AL} (t : TA F h l E h k E1 h1 k1 A) : PA s F l [] E D h k E1 D h1 k1 A
  | more {l : List RI} {ph : Ph} {r : List Ph} {E : TT AV} {D : List AD} {h : TT AO} {k : Pos} {E1 : TT AV} {h1 : TT AO} {k1 : Pos} {p : Pos} {v : AV} {D2 : List AD} {h2 : TT AO} {k2 : Pos} {Ef : TT AV} {Df : List AD} {hf : TT AO} {kf : Pos} {A B : AL}
      (t : TA F h l E h k E1 h1 k1 A) (hd : ph.e.d = .ex p) (hE : E1.get p = none) (he : ∀ K : KT, evG s (rv F [] E1) ph.e D h1 k1 K = K v D2 h2 k2)
      (hc : chkAll (E1.put p (some v)) F h2 ph.c = true) (n : PA s F ph.l r (E1.put p (some v)) D2 h2 k2 Ef Df hf kf B) : PA s F l (ph :: r) E D h k Ef Df hf kf (A ++ B)

theorem PT.pa {s : Sf} {F : TT AV} {l : List RI} {phs : List Ph} {E : TT AV} {D : List AD} {h : TT AO} {k : Pos} {Ef : TT AV} {Df : List AD} {hf : TT AO} {kf : Pos} (t : PT s F l phs E D h k Ef Df hf kf) : ∃ A, PA s F l phs E D h k Ef Df hf kf A := by
  induction t with
  | last l E D h k E1 h1 k1 t =>
    obtain ⟨i1, i2, A, a1, a2, a3, a4, a5, a6, a7⟩ := t.allocs
    exact ⟨A, .last ⟨i1, i2, a1, a2, a3, a4, a5, a6, a7⟩⟩
  | more l ph r E D h k E1 h1 k1 p v D2 h2 k2 Ef Df hf kf t hd hE he hc n ih =>
    obtain ⟨i1, i2, A, a1, a2, a3, a4, a5, a6, a7⟩ := t.allocs
    obtain ⟨B, hB⟩ := ih
    exact ⟨A ++ B, .more ⟨i1, i2, a1, a2, a3, a4, a5, a6, a7⟩ hd hE he hc hB⟩

theorem PA.all {s : Sf} (hs : SfMono s) {F : TT AV} {l : List RI} {phs : List Ph} {E : TT AV} {D : List AD} {h : TT AO} {k : Pos} {Ef : TT AV} {Df : List AD} {hf : TT AO} {kf : Pos} {A : AL} (t : PA s F l phs E D h k Ef Df hf kf A) :
    EL E Ef ∧ k.num ≤ kf.num ∧ A.Pairwise (fun a b => a.2.1.num < b.2.1.num) ∧ (∀ a ∈ A, k.num ≤ a.2.1.num ∧ a.2.1.num < kf.num) ∧ (∀ r ∈ l, OpG F Ef A r) ∧ (∀ p ∈ phs, (∀ r ∈ p.l, OpG F Ef A r) ∧ ∃ q v, p.e.d = .ex q ∧ Ef.get q = some v) ∧
      (∀ a ∈ A, (∃ r ∈ l, AlF F Ef r a) ∨ ∃ p ∈ phs, ∃ r ∈ p.l, AlF F Ef r a) ∧ A.Pairwise (fun a b => a.1 ≠ b.1) ∧ (∀ a ∈ A, E.get a.1 = none) := by
  induction t with
  | last t => exact ⟨t.el, t.le, t.up, t.rng, fun r hr => (t.ops r hr).g (EL.refl _) (fun _ h => h), fun p hp => by simp at hp, fun a ha => .inl (t.at_ a ha).2, t.one, t.non⟩
  | more t hd hE he hc n ih =>
    rename_i E1 h1 k1 p v D2 h2 k2 Ef Df hf kf A B
    obtain ⟨j1, j2, b1, b2, b3, b4, b5, b6, b7⟩ := ih
    have hle := evG_le hs he
    have hE1 : EL E1 Ef := (EL.put hE v).trans j1
    have l1 := t.le
    refine ⟨t.el.trans hE1, by omega, List.pairwise_append.2 ⟨t.up, b1, fun a ha b hb => ?_⟩, fun a ha => ?_, fun q hq => (t.ops q hq).g hE1 (fun a ha => List.mem_append_left _ ha), fun q hq => ?_, fun a ha => ?_, List.pairwise_append.2 ⟨t.one, b6, fun a ha b hb e => ?_⟩, fun a ha => ?_⟩
    · have := (t.rng a ha).2
      have := (b2 b hb).1
      omega
    · rcases List.mem_append.1 ha with ha | ha
      · have := t.rng a ha; omega
      · have := b2 a ha; omega
    · rcases List.mem_cons.1 hq with rfl | hq
      · exact ⟨fun r hr => (b3 r hr).more (fun a ha => List.mem_append_right _ ha), p, v, hd, EL.le_put j1⟩
      · obtain ⟨c1, c2⟩ := b4 q hq
        exact ⟨fun r hr => (c1 r hr).more (fun a ha => List.mem_append_right _ ha), c2⟩
    · rcases List.mem_append.1 ha with ha | ha
      · obtain ⟨r, x, y⟩ := (t.at_ a ha).2
        exact .inl ⟨r, x, y.up hE1⟩
      · rcases b5 a ha with ⟨r, x, y⟩ | ⟨q, x, r, y⟩
        · exact .inr ⟨_, by simp, r, x, y⟩
        · exact .inr ⟨q, by simp [x], r, y⟩
    · obtain ⟨_, r, hr, hrd, _⟩ := t.at_ a ha
      obtain ⟨p', v', kt, b', Et, ht, x1, x2, _⟩ := t.ops r hr
      rw [hrd] at x1
      cases x1
      have := b7 b hb
      rw [← e, get_put] at this
      split at this
      · cases this
      · rw [x2] at this; cases this
    · rcases List.mem_append.1 ha with ha | ha
      · exact t.non a ha
      · have hb := b7 a ha
        rw [get_put] at hb
        split at hb
        · cases hb
        · refine Option.eq_none_iff_forall_ne_some.2 (fun u h0 => ?_)
          rw [t.el _ _ h0] at hb
          cases hb
end Go.Ev
namespace Go.Ev
open Go

theorem dsts_inj : ∀ {l : List Oper}, dstsOk l = true → ∀ (i j : Nat) (x y : Oper) (d : Tmp), l[i]? = some x → l[j]? = some y → x.dst = some d → y.dst = some d → i = j
  | [], _, i, j, x, y, d, hi, _, _, _ => by simp at hi
  | o :: r, h, i, j, x, y, d, hi, hj, hx, hy => by
    simp only [dstsOk, Bool.and_eq_true] at h
    obtain ⟨h1, h2⟩ := h
    have far : ∀ (j : Nat) (y : Oper), r[j]? = some y → y.dst = some d → o.dst = some d → False := by
      intro j y hj hy ho
      rw [ho] at h1
      have := List.all_eq_true.1 h1 y (List.mem_of_getElem? hj)
      rw [hy] at this
      simp at this
    cases i with
    | zero => cases j with
      | zero => rfl
      | succ j => simp at hi hj; subst hi; exact (far j y hj hy hx).elim
    | succ i => cases j with
      | zero => simp at hi hj; subst hj; exact (far i x hi hx hy).elim
      | succ j => simp at hi hj; rw [dsts_inj h2 i j x y d hi hj hx hy]
theorem writer_none {ops : List Oper} {t : Nat} (h : writer ops t = none) : ∀ (i : Nat) (o : Oper), ops[i]? = some o → o.dst ≠ some t := by
  intro i o hi hd
  unfold writer at h
  rw [List.findIdx?_eq_none_iff] at h
  have := h o (List.mem_of_getElem? hi)
  simp [hd] at this
theorem writer_some {ops : List Oper} {t w : Nat} (h : writer ops t = some w) : ∃ o, ops[w]? = some o ∧ o.dst = some t := by
  unfold writer at h
  rw [List.findIdx?_eq_some_iff_getElem] at h
  obtain ⟨h1, h2, _⟩ := h
  exact ⟨_, List.getElem?_eq_getElem h1, by simpa using h2⟩

theorem nf_evG {ρ : Rho} {h : TT AO} {k : Pos} {r : RI} {v : AV} {b : Option AO} (hn : NF ρ h k r v b) (s : Sf) (D : List AD) (K : KT) : evG s ρ r D h k K = K v D (putB h k b) (sucB k b) := by
  obtain ⟨g, o, d⟩ := r
  cases hn with
  | no hg =>
    cases g with
    | none => exact hg.elim
    | some cb =>
      obtain ⟨c, w⟩ := cb
      obtain ⟨u, hu, hb⟩ := hg
      simp only [evG, hu]
      cases u <;> first | rfl | (simp only at hb; simp [hb]; rfl)
  | yes _ _ hg ho =>
    have hk : evG s ρ ⟨g, o, d⟩ D h k K = evOp s ρ o D h k K := by
      cases g with
      | none => rfl
      | some cb =>
        obtain ⟨c, w⟩ := cb
        obtain ⟨x, hx, hb⟩ := hg
        simp only [evG, hx, hb, cond_true]
    rw [hk]
    simp only at ho
    cases ho with
    | pu p _ e => simp only [evOp, e]; rfl
    | rd p _ e => simp only [evOp, e]; rfl
    | al p b _ e => simp only [evOp, e]; rfl
theorem kt_inj {f : KT → R} {v v' : AV} {D D' : List AD} {h h' : TT AO} {k k' : Pos} (h1 : ∀ K : KT, f K = K v D h k) (h2 : ∀ K : KT, f K = K v' D' h' k') : v = v' ∧ D = D' ∧ h = h' ∧ k = k' := by
  have h3 := (h1 (fun v D h k => R.go .nrm (.n .e (some v) .e) D h k)).symm.trans (h2 _)
  injection h3 with a b c d e
  injection b with b1 b2 b3
  injection b2 with b2
  exact ⟨b2, c, d, e⟩
/-- what needs no memory stays. -/
theorem NF.other {ρ : Rho} {h : TT AO} {k : Pos} {r : RI} {v : AV} (hn : NF ρ h k r v none) (hr : isRd r = false) (h' : TT AO) (k' : Pos) : NF ρ h' k' r v none := by
  cases hn with
  | no g => exact .no g
  | yes _ _ g o =>
    refine .yes v none g ?_
    unfold isRd at hr
    generalize r.o = q at o hr
    cases o with
    | pu p _ e => exact .pu p v e
    | rd p _ e => cases hr
theorem NF.at_ {ρ : Rho} {h : TT AO} {k : Pos} {r : RI} {v : AV} {o : AO} (hn : NF ρ h k r v (some o)) (h' : TT AO) : NF ρ h' k r v (some o) := by
  cases hn with
  | yes _ _ g q =>
    refine .yes v (some o) g ?_
    generalize r.o = p at q
    cases q with
    | al p b _ e => exact .al p o v e
theorem NF.rd_none {ρ : Rho} {h : TT AO} {k : Pos} {r : RI} {v : AV} {b : Option AO} (hn : NF ρ h k r v b) (hr : isRd r = true) : b = none := by
  cases hn with
  | no g => rfl
  | yes _ _ g o =>
    unfold isRd at hr
    generalize r.o = q at o hr
    cases o with
    | pu p _ e => rfl
    | rd p _ e => rfl
    | al p b _ e => cases hr
theorem isRd_inv {r : RI} (hr : isRd r = true) : ∃ p, r.o = .rd p := by
  unfold isRd at hr
  split at hr
  · exact ⟨_, by assumption⟩
  · cases hr
theorem isRd_ef {r : RI} (hr : isRd r = true) : isEf r = false ∧ isAl r = false := by
  obtain ⟨p, hp⟩ := isRd_inv hr
  simp [isEf, isAl, hp]

/-- what has been looked at again. -/
theorem chk_nf {F E Et Ef : TT AV} {h h' : TT AO} {k kt : Pos} {p : Pos} {r : RI} {v : AV} (hc : chk E F h (p, r) = true) (hE : EL E Ef) (hEt : EL Et Ef) (hv : Ef.get p = some v) (hn : NF (rv F [] Et) h' kt r v none) (hr : isRd r = true) :
    NF (rv F [] E) h k r v none := by
  obtain ⟨g, o, d⟩ := r
  have key : ∀ {o' : RdOp} {v1 : AV}, E.get p = some v1 → (match evRd (rv F [] E) h o' with | some v' => same 6 v1 v' | none => false) = true → OF (rv F [] E) h k (.rd o') v none := by
    intro o' v1 h1 h2
    split at h2
    · rename_i v2 he
      have e1 := same_eq 6 _ _ h2
      have e2 := hE _ _ h1
      rw [hv] at e2
      cases e2
      subst e1
      exact .rd o' _ he
    · cases h2
  have und : gNo (rv F [] E) g → v = undf := by
    intro hno
    cases hn with
    | no _ => rfl
    | yes _ _ hg _ =>
      exfalso
      cases g with
      | none => exact hno
      | some cb =>
        obtain ⟨c, b⟩ := cb
        obtain ⟨x, hx, hb⟩ := hg
        obtain ⟨u, hu, hub⟩ := hno
        have a1 := hEt.rv F hx
        have a2 := hE.rv F hu
        rw [a1] at a2
        cases a2
        simp only at hub
        rw [hb] at hub
        cases hub
  unfold chk at hc
  simp only at hc
  split at hc
  · rename_i o' v1 h1
    exact .yes v none trivial (key h1 hc)
  · rename_i c b o' v1 h1
    split at hc
    · rename_i x hx
      rcases cond_eq_true hc with ⟨hb, hc⟩ | ⟨hb, _⟩
      · exact .yes v none ⟨x, hx, hb⟩ (key h1 hc)
      · have hno : gNo (rv F [] E) (some (c, b)) := ⟨_, hx, hb⟩
        rw [und hno]
        exact .no hno
    · rename_i u hne hu
      have hno : gNo (rv F [] E) (some (c, b)) := ⟨_, hu, by cases u <;> first | rfl | (exact (hne _ rfl).elim)⟩
      rw [und hno]
      exact .no hno
    · cases hc
  · cases hc

theorem chkAll_mem {E F : TT AV} {h : TT AO} : ∀ {l : List (Pos × RI)}, chkAll E F h l = true → ∀ c ∈ l, chk E F h c = true
  | [], _, c, hc => by simp at hc
  | x :: l, ha, c, hc => by
    have ha := Bool.and_eq_true_iff.1 (show (chk E F h x && chkAll E F h l) = true from ha)
    rcases List.mem_cons.1 hc with rfl | hc
    · exact ha.1
    · exact chkAll_mem ha.2 c hc

theorem before_ready {ops : Array Oper} {S : Nat → Prop} (hS : ∀ i o, ops[i]? = some o → S i → ∀ e ∈ o.after, Region.binds .any e = true → S e.on) {i : Nat} {o : Oper} (ho : ops[i]? = some o) (hr : ∀ e ∈ o.after, Region.binds .any e = true → S e.on)
    {j : Nat} (hb : ((anc ops).getD i 0).testBit j = true) : S j := by
  have hi : i < ops.size := (Array.getElem?_eq_some_iff.1 ho).1
  have hlist : (anc ops).getD i 0 = (ops.toList.foldl bstep #[]).getD i 0 := by
    unfold anc
    rw [before_eq]
    simp [Array.getD_eq_getD_getElem?, List.getD_eq_getElem?_getD]
  rw [hlist] at hb
  have hb' : ((ops.toList.reverse.reverse.foldl bstep #[]).getD i 0).testBit j = true := by rw [List.reverse_reverse]; exact hb
  obtain ⟨e, he, hbe, hj⟩ := before_spec ops.toList.reverse [] i o j (by simpa using ho) (by simpa using hi) hb'
  rcases hj with rfl | ⟨hlt, hbj⟩
  · exact hr e he hbe
  · refine before_closed hS e.on j (by omega) (hr e he hbe) ?_
    rw [List.reverse_reverse] at hbj
    rw [before_eq]
    simpa [Array.getD_eq_getD_getElem?, List.getD_eq_getElem?_getD] using hbj

theorem mem_esOf {ris : List RI} {e : Nat} : e ∈ esOf ris ↔ ∃ r, ris[e]? = some r ∧ isEf r = true := by
  unfold esOf
  rw [List.mem_filter, List.mem_range]
  constructor
  · rintro ⟨h1, h2⟩
    split at h2
    · exact ⟨_, by assumption, h2⟩
    · cases h2
  · rintro ⟨r, h1, h2⟩
    exact ⟨(List.getElem?_eq_some_iff.1 h1).1, by simp only [h1, h2]⟩
theorem chain_get {an : List Nat} : ∀ {es : List Nat}, chainOk an es = true → ∀ (p a b : Nat), es[p]? = some a → es[p + 1]? = some b → (an.getD b 0).testBit a = true
  | [], _, p, a, b, ha, _ => by simp at ha
  | [x], _, p, a, b, _, hb => by simp at hb
  | x :: y :: r, h, p, a, b, ha, hb => by
    simp only [chainOk, Bool.and_eq_true] at h
    cases p with
    | zero => simp at ha hb; subst ha hb; exact h.1
    | succ p => exact chain_get h.2 p a b (by simpa using ha) (by simpa using hb)

theorem pw_name : ∀ {A : AL}, A.Pairwise (fun a b => a.2.1.num < b.2.1.num) → ∀ a ∈ A, ∀ b ∈ A, a.2.1 = b.2.1 → a = b
  | [], _, a, ha, _, _, _ => by simp at ha
  | x :: l, h, a, ha, b, hb, e => by
    obtain ⟨h1, h2⟩ := List.pairwise_cons.1 h
    rcases List.mem_cons.1 ha with rfl | ha'
    · rcases List.mem_cons.1 hb with rfl | hb'
      · rfl
      · have := h1 b hb'; rw [e] at this; omega
    · rcases List.mem_cons.1 hb with rfl | hb'
      · have := h1 a ha'; rw [e] at this; omega
      · exact pw_name h2 a ha' b hb' e
theorem pw_place : ∀ {A : AL}, A.Pairwise (fun a b => a.1 ≠ b.1) → ∀ a ∈ A, ∀ b ∈ A, a.1 = b.1 → a = b
  | [], _, a, ha, _, _, _ => by simp at ha
  | x :: l, h, a, ha, b, hb, e => by
    obtain ⟨h1, h2⟩ := List.pairwise_cons.1 h
    rcases List.mem_cons.1 ha with rfl | ha'
    · rcases List.mem_cons.1 hb with rfl | hb'
      · rfl
      · exact (h1 b hb' e).elim
    · rcases List.mem_cons.1 hb with rfl | hb'
      · exact (h1 a ha' e.symm).elim
      · exact pw_place h2 a ha' b hb' e

theorem PA.first {s : Sf} (hs : SfMono s) {F : TT AV} {l : List RI} {phs : List Ph} {E : TT AV} {D : List AD} {h : TT AO} {k : Pos} {Ef : TT AV} {Df : List AD} {hf : TT AO} {kf : Pos} {A : AL} (t : PA s F l phs E D h k Ef Df hf kf A) :
    ∃ E1 h1 k1 A1, TA F h l E h k E1 h1 k1 A1 ∧ EL E1 Ef ∧ ∀ a ∈ A1, a ∈ A := by
  cases t with
  | last t => exact ⟨_, _, _, _, t, EL.refl _, fun _ h => h⟩
  | more t hd hE he hc n => exact ⟨_, _, _, _, t, (EL.put hE _).trans (n.all hs).1, fun a ha => List.mem_append_left _ ha⟩
end Go.Ev
namespace Go.Ev
open Go

structure DX where
  P : Program
  dyn : List TypeId
  gm : Nat
  nt : Nat
  ops : Array Oper
  ris : List RI
  s : Sf
  rd : Option Pos
  F : TT AV
  h0 : TT AO
  k0 : Pos
  w0 : World
  φ0 : Phi
  Ef : TT AV
  Df : List AD
  hf : TT AO
  kf : Pos
  A : AL

namespace DX
structure Ok (X : DX) : Prop where
  c : DrC X.P X.dyn X.gm X.nt X.ops X.ris
  ok : SfOk X.P X.dyn X.s
  mono : SfMono X.s
  rl : SfRl X.s
  nt : X.nt ≤ 65536
  up : X.A.Pairwise (fun a b => a.2.1.num < b.2.1.num)
  one : X.A.Pairwise (fun a b => a.1 ≠ b.1)
  gl : ∀ (i : Nat) (r : RI), X.ris[i]? = some r → isEf r = false → OpG X.F X.Ef X.A r
  gA : ∀ a ∈ X.A, ∃ (i : Nat) (r : RI), X.ris[i]? = some r ∧ a.1 = pos i ∧ AlF X.F X.Ef r a
  nw : New X.φ0 X.k0 X.kf
abbrev an (X : DX) : List Nat := anc X.ops
abbrev es (X : DX) : List Nat := esOf X.ris
abbrev pw (X : DX) : List Nat := pwOf X.ops X.ris
/-- where a run stands that has carried out the operations of S, j of those that act among them. -/
structure St (X : DX) (S : Nat → Prop) (a : Act) (w : World) (j : Nat) (φ : Phi) (E : TT AV) (D : List AD) (h : TT AO) (k : Pos) (A0 A1 : AL) (pend : Pos → Option AO) : Prop where
  clo : ∀ (i : Nat) (o : Oper), X.ops[i]? = some o → S i → ∀ e ∈ o.after, Region.binds .any e = true → S e.on
  eff : ∀ (p e : Nat), X.es[p]? = some e → (S e ↔ p < j)
  jle : j ≤ X.es.length
  pa : PA X.s X.F (atP X.an X.es X.pw X.ris j) (phP X.an X.es X.pw X.ris (X.es.drop j) j) E D h k X.Ef X.Df X.hf X.kf A1
  aa : X.A = A0 ++ A1
  a0 : ∀ a ∈ A0, ∃ i, S i ∧ a.1 = pos i
  pd : ∀ (p : Pos) (o : AO), pend p = some o ↔ ∃ i, S i ∧ (pos i, p, o) ∈ A1
  dm : ∀ p o, h.get p = some o → p.num < k.num ∨ X.kf.num ≤ p.num
  fr : ∀ n : Pos, k.num ≤ n.num → n.num < X.kf.num → φ n ≠ none → ∃ o, pend n = some o
  gr : Grown X.φ0 φ X.k0 X.kf
  kk : X.k0.num ≤ k.num
  sz : a.tmps.size = X.nt
  lt : ∀ (i : Nat), S i → i < X.ops.size
  val : ∀ (i : Nat) (o : Oper) (d : Tmp), S i → X.ops[i]? = some o → o.dst = some d → ∀ v, X.Ef.get (pos i) = some v → ∃ v', a.tmps[d]? = some v' ∧ VR φ v v'
  old : ∀ (t : Nat) (v : AV), t < X.nt → X.F.get (pos t) = some v → kept X.gm t = true ∧ ((∀ (i : Nat) (o : Oper), S i → X.ops[i]? = some o → o.dst ≠ some t) → ∃ v', a.tmps[t]? = some v' ∧ VR φ v v')
  df : DR φ X.rd D a.defers
  hr : HR X.P X.dyn φ (ovr pend fun p => h.get p) w
  ex : Ext X.φ0 (fun p => X.h0.get p) X.w0 φ (ovr pend fun p => h.get p) w
  rds : ∀ (i : Nat) (r : RI), X.ris[i]? = some r → isRd r = true → ¬ S i → loOf X.an X.es i < j → ∃ Et v kt, EL Et X.Ef ∧ X.Ef.get (pos i) = some v ∧ NF (rv X.F [] Et) h kt r v none

def Inv (X : DX) (S : Nat → Prop) (a : Act) (w : World) : Prop := ∃ j φ E D h k A0 A1 pend, St X S a w j φ E D h k A0 A1 pend

section
variable {X : DX} (hX : X.Ok) {S : Nat → Prop} {a : Act} {w : World} {j : Nat} {φ : Phi} {E : TT AV} {D : List AD} {h : TT AO} {k : Pos} {A0 A1 : AL} {pend : Pos → Option AO}

theorem pos_lt {i : Nat} (hX : X.Ok) (hi : i < X.ops.size) : i < 16777216 := by
  have := hX.c.size
  simp at this
  omega
theorem tmp_lt {i d : Nat} {o : Oper} (hX : X.Ok) (ho : X.ops[i]? = some o) (hd : o.dst = some d) : d < X.nt := by
  have h1 := List.all_eq_true.1 hX.c.dlt o (by rw [Array.mem_toList_iff]; exact Array.mem_of_getElem? ho)
  rw [hd] at h1
  simp only [blt_iff] at h1
  simpa using h1

include hX
/-- the values of operands. -/
theorem St.rho (st : St X S a w j φ E D h k A0 A1 pend) {i : Nat} (_hi : i < X.ops.size) (hS : ¬ S i) (hanc : ∀ x, (X.an.getD i 0).testBit x = true → S x) {Et : TT AV} (hEt : EL Et X.Ef) :
    RhoOk φ (ocD X.gm X.nt X.ops.toList X.an i) (rv X.F [] Et) a.eval := by
  intro o c v hc hv
  cases o with
  | tmp t =>
    simp only [ocD] at hc
    cases hw : writer X.ops.toList t with
    | none =>
      rw [hw] at hc
      rcases cond_eq_true hc with ⟨hk, hc⟩ | ⟨_, hc⟩
      · cases hc
        rw [Bool.and_eq_true, blt_iff] at hk
        obtain ⟨_, h2⟩ := st.old t v (by simpa using hk.2) hv
        obtain ⟨v', h3, h4⟩ := h2 (fun (i : Nat) (o : Oper) _ ho => writer_none hw i o (by rw [Array.getElem?_toList]; exact ho))
        simp only [Act.eval, Array.getD_eq_getD_getElem?, h3, Option.getD_some]
        exact h4
      · cases hc
    | some u =>
      rw [hw] at hc
      obtain ⟨ou, hu, hud⟩ := writer_some hw
      rw [Array.getElem?_toList] at hu
      rcases cond_eq_true hc with ⟨hb, hc⟩ | ⟨_, hc⟩
      · cases hc
        obtain ⟨v', h3, h4⟩ := st.val u ou t (hanc u hb) hu hud v (hEt _ _ hv)
        simp only [Act.eval, Array.getD_eq_getD_getElem?, h3, Option.getD_some]
        exact h4
      · rcases cond_eq_true hc with ⟨hk, hc⟩ | ⟨_, hc⟩
        · cases hc
          rw [Bool.and_eq_true, Bool.and_eq_true, blt_iff] at hk
          obtain ⟨_, h2⟩ := st.old t v (by simpa using hk.2.2) hv
          have hSu : ¬ S u := fun hu' => hS (before_closed st.clo u i (Array.getElem?_eq_some_iff.1 hu).1 hu' hk.1)
          obtain ⟨v', h3, h4⟩ := h2 (fun i o hSi ho hd => hSu (by
            have := dsts_inj hX.c.dsts u i ou o t (by rw [Array.getElem?_toList]; exact hu) (by rw [Array.getElem?_toList]; exact ho) hud hd
            rw [this]; exact hSi))
          simp only [Act.eval, Array.getD_eq_getD_getElem?, h3, Option.getD_some]
          exact h4
        · cases hc
  | const u =>
    obtain ⟨v0, h1, h2⟩ := Option.map_eq_some_iff.1 hc
    cases h2
    cases hv
    exact const_VR 3 u v h1
  | func f =>
    simp only [ocD] at hc
    rcases cond_eq_true hc with ⟨hlt, hc⟩ | ⟨_, hc⟩
    · cases hc
      cases hv
      rw [blt_iff] at hlt
      have := VR.f (φ := φ) (pos f) [] [] [] [] .nil .nil
      rw [pos_num (by simpa using hlt)] at this
      exact this
    · cases hc
  | global g => cases hc

/-- a read that has not been carried out. -/
theorem St.read (st : St X S a w j φ E D h k A0 A1 pend) {i : Nat} {r : RI} (hr : X.ris[i]? = some r) (hrd : isRd r = true) (hS : ¬ S i) (hlo : loOf X.an X.es i ≤ j) :
    ∃ Et v kt, EL Et X.Ef ∧ X.Ef.get (pos i) = some v ∧ NF (rv X.F [] Et) h kt r v none := by
  rcases Nat.lt_or_ge (loOf X.an X.es i) j with hlt | hge
  · exact st.rds i r hr hrd hS hlt
  · obtain ⟨he, hal⟩ := isRd_ef hrd
    have hat : isAt X.an X.es X.pw j i r = true := by
      simp only [isAt, he, hal, hrd, cond_false, cond_true, Bool.not_false, Bool.true_and, beq_iff]
      exact decide_eq_true (Nat.le_antisymm hlo hge)
    obtain ⟨E1, h1, k1, A2, t, hE1, _⟩ := st.pa.first hX.mono
    obtain ⟨p, v, kt, b, Et, ht, x1, x2, x3, x4, x5⟩ := t.ops r (mem_atP hr hat)
    have hlen := hX.c.len
    have hi : i < X.ops.size := by rw [← hlen]; exact (List.getElem?_eq_some_iff.1 hr).1
    obtain ⟨r', hr', _, _, hd⟩ := hX.c.at (Array.getElem?_eq_getElem hi)
    rw [hr] at hr'
    cases hr'
    rw [hd] at x1
    cases x1
    rcases x4 with x4 | ⟨hno, _⟩
    · have := x4.rd_none hrd
      subst this
      exact ⟨Et, v, kt, x3.trans hE1, hE1 _ _ x2, x4⟩
    · obtain ⟨q, hq⟩ := isRd_inv hrd
      exact (hno q hq).elim

omit hX in
/-- how many of those that act lie ahead. -/
theorem St.lo (st : St X S a w j φ E D h k A0 A1 pend) {i : Nat} (hanc : ∀ x, (X.an.getD i 0).testBit x = true → S x) : loOf X.an X.es i ≤ j :=
  loOf_le (fun p e he hb => (st.eff p e he).1 (hanc e hb))
omit hX in
theorem St.hi (st : St X S a w j φ E D h k A0 A1 pend) {i : Nat} (hS : ¬ S i) : j ≤ hiOf X.an X.es i := by
  rcases Nat.lt_or_ge (hiOf X.an X.es i) j with hlt | hge
  · exfalso
    have hl : hiOf X.an X.es i < X.es.length := Nat.lt_of_lt_of_le hlt st.jle
    have he := List.getElem?_eq_getElem hl
    have hb := hiOf_at he
    have hSe := (st.eff _ _ he).2 hlt
    exact hS (before_closed st.clo _ i (st.lt _ hSe) hSe hb)
  · exact hge

theorem St.slots (st : St X S a w j φ E D h k A0 A1 pend) {i : Nat} {o : Oper} (ho : X.ops[i]? = some o) {φ1 : Phi} (hle : φ.le φ1) {v : AV} {v' : Value} (hEv : X.Ef.get (pos i) = some v) (hv : VR φ1 v v') (ds : List Deferred) :
    (({ a with defers := ds } : Act).put o.dst v').defers = ds ∧ (({ a with defers := ds } : Act).put o.dst v').tmps.size = X.nt ∧
      (∀ (i' : Nat) (o' : Oper) (d : Tmp), (S i' ∨ i' = i) → X.ops[i']? = some o' → o'.dst = some d → ∀ u, X.Ef.get (pos i') = some u → ∃ u', (({ a with defers := ds } : Act).put o.dst v').tmps[d]? = some u' ∧ VR φ1 u u') ∧
      (∀ (t : Nat) (u : AV), t < X.nt → X.F.get (pos t) = some u → kept X.gm t = true ∧ ((∀ (i' : Nat) (o' : Oper), (S i' ∨ i' = i) → X.ops[i']? = some o' → o'.dst ≠ some t) → ∃ u', (({ a with defers := ds } : Act).put o.dst v').tmps[t]? = some u' ∧ VR φ1 u u')) := by
  have hput : ∀ t, o.dst ≠ some t → (({ a with defers := ds } : Act).put o.dst v').tmps[t]? = a.tmps[t]? := by
    intro t ht
    cases hd : o.dst with
    | none => rfl
    | some d =>
      have : d ≠ t := fun e => ht (by rw [hd, e])
      simp only [Act.put]
      rw [Array.getElem?_setIfInBounds_ne this]
  refine ⟨by cases o.dst <;> rfl, by cases o.dst <;> simp [Act.put, st.sz], fun i' o' d hi' ho' hd u hu => ?_, fun t u ht hu => ?_⟩
  · by_cases hii : i' = i
    · subst hii
      rw [ho] at ho'
      cases ho'
      rw [hEv] at hu
      cases hu
      have hlt := tmp_lt hX ho hd
      refine ⟨v', ?_, hv⟩
      rw [hd]
      simp [Act.put, st.sz, hlt]
    · have hSi : S i' := hi'.resolve_right hii
      obtain ⟨u', h1, h2⟩ := st.val i' o' d hSi ho' hd u hu
      refine ⟨u', ?_, h2.mono hle⟩
      rw [hput d (fun e => hii (dsts_inj hX.c.dsts i' i o' o d (by rw [Array.getElem?_toList]; exact ho') (by rw [Array.getElem?_toList]; exact ho) hd e))]
      exact h1
  · obtain ⟨h1, h2⟩ := st.old t u ht hu
    refine ⟨h1, fun hno => ?_⟩
    obtain ⟨u', h3, h4⟩ := h2 (fun i' o' hSi ho' => hno i' o' (.inl hSi) ho')
    refine ⟨u', ?_, h4.mono hle⟩
    rw [hput t (hno i o (.inr rfl) ho)]
    exact h3

theorem St.names (st : St X S a w j φ E D h k A0 A1 pend) : ∀ a ∈ A1, k.num ≤ a.2.1.num ∧ a.2.1.num < X.kf.num := (st.pa.all hX.mono).2.2.2.1
theorem St.disj (st : St X S a w j φ E D h k A0 A1 pend) : ∀ p o, pend p = some o → h.get p = none := by
  intro p o hp
  obtain ⟨i, _, hi⟩ := (st.pd p o).1 hp
  have := st.names hX _ hi
  cases hh : h.get p with
  | none => rfl
  | some o' => have := st.dm p o' hh; simp only at *; omega
theorem St.part (st : St X S a w j φ E D h k A0 A1 pend) : ∀ p o, h.get p = some o → ovr pend (fun p => h.get p) p = some o := by
  intro p o hp
  unfold ovr
  cases hq : pend p with
  | none => exact hp
  | some o' => rw [st.disj hX p o' hq] at hp; cases hp

theorem St.le0 (st : St X S a w j φ E D h k A0 A1 pend) : X.φ0.le φ := st.gr.le hX.nw

theorem same_op {i i' : Nat} {r : RI} (hr : X.ris[i]? = some r) (hi' : i' < X.ops.size) (e : pos i = pos i') : i = i' := by
  have hlen := hX.c.len
  exact pos_inj (pos_lt hX (by rw [← hlen]; exact (List.getElem?_eq_some_iff.1 hr).1)) (pos_lt hX hi') e
omit hX in
theorem NF.rk {ρ : Rho} {h : TT AO} {k : Pos} {r : RI} {v : AV} (hn : NF ρ h k r v none) (k' : Pos) : NF ρ h k' r v none := by
  cases hn with
  | no g => exact .no g
  | yes _ _ g o =>
    refine .yes v none g ?_
    generalize r.o = q at o
    cases o with
    | pu p _ e => exact .pu p v e
    | rd p _ e => exact .rd p v e

/-- what is known of an operation whose turn it is. -/
theorem St.fact (st : St X S a w j φ E D h k A0 A1 pend) {i : Nat} {r : RI} (hr : X.ris[i]? = some r) (he : isEf r = false) (hS : ¬ S i) (hanc : ∀ x, (X.an.getD i 0).testBit x = true → S x) :
    ∃ Et v, EL Et X.Ef ∧ X.Ef.get (pos i) = some v ∧ (NF (rv X.F [] Et) h k r v none ∨ ∃ kt b, NF (rv X.F [] Et) .e kt r v (some b) ∧ (pos i, kt, b) ∈ A1) := by
  by_cases hrd : isRd r = true
  · obtain ⟨Et, v, kt, x1, x2, x3⟩ := st.read hX hr hrd hS (st.lo hanc)
    exact ⟨Et, v, x1, x2, .inl (NF.rk x3 k)⟩
  · have hrd : isRd r = false := by simpa using hrd
    obtain ⟨p, v, kt, b, Et, ht, x1, x2, x3, x4, x5⟩ := hX.gl i r hr he
    have hlen := hX.c.len
    have hi : i < X.ops.size := by rw [← hlen]; exact (List.getElem?_eq_some_iff.1 hr).1
    obtain ⟨r', hr', _, _, hd⟩ := hX.c.at (Array.getElem?_eq_getElem hi)
    rw [hr] at hr'
    cases hr'
    rw [hd] at x1
    cases x1
    refine ⟨Et, v, x3, x2, ?_⟩
    cases b with
    | none => exact .inl (x4.other hrd h k)
    | some b =>
      refine .inr ⟨kt, b, x4.at_ .e, ?_⟩
      have hm := x5 b rfl
      rw [st.aa] at hm
      rcases List.mem_append.1 hm with hm | hm
      · obtain ⟨i', hSi, e⟩ := st.a0 _ hm
        have := same_op hX hr (st.lt i' hSi) e
        subst this
        exact (hS hSi).elim
      · exact hm

/-- an operation without a block has no block in the list. -/
theorem no_entry {i : Nat} {r : RI} (hr : X.ris[i]? = some r) {Et : TT AV} (hEt : EL Et X.Ef) {h : TT AO} {k : Pos} {v : AV} (hn : NF (rv X.F [] Et) h k r v none) {p : Pos} {o : AO} (hm : (pos i, p, o) ∈ X.A) : False := by
  obtain ⟨i', r', hr', e, hd, hal, v', Et', ht, hEt', hn'⟩ := hX.gA _ hm
  have hlen := hX.c.len
  have := same_op hX hr (by rw [← hlen]; exact (List.getElem?_eq_some_iff.1 hr').1) e
  subst this
  rw [hr] at hr'
  cases hr'
  cases hn' with
  | yes _ _ g' o' =>
    cases hn with
    | no g =>
      obtain ⟨gd, op, dd⟩ := r
      cases gd with
      | none => exact g
      | some cb =>
        obtain ⟨c, b⟩ := cb
        obtain ⟨u, hu, hub⟩ := g
        obtain ⟨x, hx, hb⟩ := g'
        have a1 := hEt.rv X.F hu
        have a2 := hEt'.rv X.F hx
        rw [a1] at a2
        cases a2
        simp only at hub
        rw [hb] at hub
        cases hub
    | yes _ _ g q =>
      generalize r.o = op at q o'
      cases q with
      | pu p _ e => cases o'
      | rd p _ e => cases o'

/-- an operation that does not act is carried out. -/
theorem St.step_nf (st : St X S a w j φ E D h k A0 A1 pend) {i : Nat} {o : Oper} {r : RI} (ho : X.ops[i]? = some o) (hr : X.ris[i]? = some r) (hco : compOper X.P X.dyn (ocD X.gm X.nt X.ops.toList X.an i) o = some r.o)
    (hgo : guardS (ocD X.gm X.nt X.ops.toList X.an i) X.ops.toList o = some r.g) (he : isEf r = false) (hS : ¬ S i) (hrdy : ∀ e ∈ o.after, Region.binds .any e = true → S e.on) {Fn : Fence} (hF : Fc X.φ0 X.rd Fn) {Q : Exit → Act → World → Prop} {next : Act → World → Prop}
    (hnext : ∀ a' w', Inv X (fun x => S x ∨ x = i) a' w' → next a' w') : wpOpIn Fn 0 X.P X.ops Q i next a w := by
  have hanc : ∀ x, (X.an.getD i 0).testBit x = true → S x := fun x hx => before_ready st.clo ho hrdy hx
  have hi : i < X.ops.size := (Array.getElem?_eq_some_iff.1 ho).1
  obtain ⟨Et, v, hEt, hEv, hfact⟩ := st.fact hX hr he hS hanc
  have hrho := st.rho hX hi hS hanc hEt
  have clo' : ∀ (i' : Nat) (o' : Oper), X.ops[i']? = some o' → (S i' ∨ i' = i) → ∀ e ∈ o'.after, Region.binds .any e = true → S e.on ∨ e.on = i := by
    intro i' o' ho' hi' e he hb
    rcases hi' with hi' | rfl
    · exact .inl (st.clo i' o' ho' hi' e he hb)
    · rw [ho] at ho'
      cases ho'
      exact .inl (hrdy e he hb)
  have eff' : ∀ (p e : Nat), X.es[p]? = some e → ((S e ∨ e = i) ↔ p < j) := by
    intro p e hp
    rw [← st.eff p e hp]
    refine ⟨fun h => h.resolve_right (fun hei => ?_), .inl⟩
    subst hei
    obtain ⟨r', hr', he'⟩ := mem_esOf.1 (List.mem_of_getElem? hp)
    rw [hr] at hr'
    cases hr'
    rw [he] at he'
    cases he'
  have lt' : ∀ x, (S x ∨ x = i) → x < X.ops.size := fun x hx => hx.elim (st.lt x) (fun e => e ▸ hi)
  have rds' : ∀ (i' : Nat) (r' : RI), X.ris[i']? = some r' → isRd r' = true → ¬ (S i' ∨ i' = i) → loOf X.an X.es i' < j → ∃ Et v kt, EL Et X.Ef ∧ X.Ef.get (pos i') = some v ∧ NF (rv X.F [] Et) h kt r' v none :=
    fun i' r' hr' hrd' hS' hlo' => st.rds i' r' hr' hrd' (fun hx => hS' (.inl hx)) hlo'
  have a0' : ∀ a ∈ A0, ∃ i', (S i' ∨ i' = i) ∧ a.1 = pos i' := fun a ha => let ⟨i', h1, h2⟩ := st.a0 a ha; ⟨i', .inl h1, h2⟩
  rcases hfact with hn | ⟨kt, b, hn, hmem⟩
  · obtain ⟨v1, D1, h1, k1, e1, e2, e3⟩ := guard_ok hX.ok hco hgo (d := r.d) (nf_evG hn X.s D (fun _ _ _ _ => R.go .nrm .e [] .e .h))
    obtain ⟨rfl, rfl, rfl, rfl⟩ := kt_inj (nf_evG hn X.s D) e1
    refine e3 φ X.rd a w Fn next Q X.ops i rfl ho hrho (st.hr.less (st.part hX)) st.df (hF.mono (st.le0 hX)) (fun n a b => by simp only [sucB] at b; omega) (fun φ1 v' ds w1 hD hv hA => ?_)
    have hφ : φ1 = φ := funext fun n => hA.gr n (by simp only [sucB]; omega)
    subst hφ
    obtain ⟨hr1, ex1⟩ := frame (rest := pend) st.hr (st.part hX) (fun p o hp => ⟨by unfold ovr; rw [hp], st.disj hX p o hp⟩) hA (Phi.le_refl _)
    obtain ⟨s1, s2, s3, s4⟩ := st.slots hX ho (Phi.le_refl φ1) hEv hv ds
    refine hnext _ _ ⟨j, φ1, E, D, h, k, A0, A1, pend, clo', eff', st.jle, st.pa, st.aa, a0', fun p o => ?_, st.dm, st.fr, st.gr, st.kk, s2, lt', s3, s4, by rw [s1]; exact hD, hr1, st.ex.trans ex1, rds'⟩
    rw [st.pd p o]
    constructor
    · rintro ⟨i', h1, h2⟩; exact ⟨i', .inl h1, h2⟩
    · rintro ⟨i', h1, h2⟩
      rcases h1 with h1 | rfl
      · exact ⟨i', h1, h2⟩
      · exact (no_entry hX hr hEt hn (by rw [st.aa]; exact List.mem_append_right _ h2)).elim
  · have hnm := st.names hX _ hmem
    simp only at hnm
    have hA1 : ∀ a ∈ A1, a ∈ X.A := fun a ha => by rw [st.aa]; exact List.mem_append_right _ ha
    have hφk : φ kt = none := by
      refine Option.eq_none_iff_forall_ne_some.2 (fun L hL => ?_)
      obtain ⟨o', ho'⟩ := st.fr kt hnm.1 hnm.2 (by rw [hL]; simp)
      obtain ⟨i', hSi, hm'⟩ := (st.pd kt o').1 ho'
      have := pw_name hX.up _ (hA1 _ hm') _ (hA1 _ hmem) rfl
      injection this with e _
      have := same_op hX hr (st.lt i' hSi) e.symm
      subst this
      exact hS hSi
    have hHk : ovr pend (fun p => h.get p) kt = none := by
      refine Option.eq_none_iff_forall_ne_some.2 (fun o' ho' => ?_)
      obtain ⟨L, _, hL, _⟩ := st.hr.blk kt o' ho'
      rw [hφk] at hL
      cases hL
    have hpk : pend kt = none := by
      refine Option.eq_none_iff_forall_ne_some.2 (fun o' ho' => ?_)
      unfold ovr at hHk
      rw [ho'] at hHk
      cases hHk
    obtain ⟨v1, D1, h1, k1, e1, e2, e3⟩ := guard_ok hX.ok hco hgo (d := r.d) (nf_evG hn X.s D (fun _ _ _ _ => R.go .nrm .e [] .e .h))
    obtain ⟨rfl, rfl, rfl, rfl⟩ := kt_inj (nf_evG hn X.s D) e1
    have hsucc : (sucB kt (some b)).num = kt.num + 1 := by simp only [sucB]; exact Pos.num_succ kt
    have hnew : New φ kt (sucB kt (some b)) := fun n x y => by
      have : n = kt := Pos.num_inj (by omega)
      rw [this]; exact hφk
    refine e3 φ X.rd a w Fn next Q X.ops i rfl ho hrho (st.hr.less (fun n o' hno => by rw [get_e] at hno; cases hno)) st.df (hF.mono (st.le0 hX)) hnew (fun φ1 v' ds w1 hD hv hA => ?_)
    have hle : φ.le φ1 := hA.gr.le hnew
    obtain ⟨hr1, ex1⟩ := frame (rest := ovr pend fun p => h.get p) st.hr (fun p o hp => by rw [get_e] at hp; cases hp) (fun p o hp => ⟨hp, get_e p⟩) hA hle
    have hH : (ovr (ovr pend fun p => h.get p) fun p => (putB TT.e kt (some b)).get p) = ovr (fun p => if p = kt then some b else pend p) fun p => h.get p := by
      funext p
      by_cases hp : p = kt
      · subst hp
        have h1 : (putB TT.e p (some b)).get p = some b := by simp only [putB]; rw [get_put, if_pos rfl]
        have h2 : ovr (ovr pend fun p => h.get p) (fun q => (putB TT.e p (some b)).get q) p = some b := by
          rw [ovr, hHk]; exact h1
        rw [h2]
        simp [ovr]
      · have h1 : (putB TT.e kt (some b)).get p = none := by simp only [putB]; rw [get_put, if_neg hp]; exact get_e p
        have h2 : ovr (fun p => if p = kt then some b else pend p) (fun p => h.get p) p = ovr pend (fun p => h.get p) p := by simp [ovr, hp]
        rw [h2]
        generalize hq : ovr pend (fun p => h.get p) = H
        unfold ovr
        cases hz : H p with
        | none => simp only [h1]
        | some z => rfl
    rw [hH] at hr1 ex1
    obtain ⟨s1, s2, s3, s4⟩ := st.slots hX ho hle hEv hv ds
    have grow : ∀ n, n ≠ kt → φ1 n = φ n := fun n hn => hA.gr n (by
      have : n.num ≠ kt.num := fun e => hn (Pos.num_inj e)
      omega)
    refine hnext _ _ ⟨j, φ1, E, D, h, k, A0, A1, fun p => if p = kt then some b else pend p, clo', eff', st.jle, st.pa, st.aa, a0', fun p o => ?_, st.dm, fun n hn1 hn2 hn3 => ?_, fun n hn => ?_, st.kk, s2, lt', s3, s4, by rw [s1]; exact hD, hr1, st.ex.trans ex1, rds'⟩
    · by_cases hp : p = kt
      · subst hp
        rw [if_pos rfl]
        constructor
        · intro e
          cases e
          exact ⟨i, .inr rfl, hmem⟩
        · rintro ⟨i', _, h2⟩
          have := pw_name hX.up _ (hA1 _ h2) _ (hA1 _ hmem) rfl
          injection this with _ e
          injection e with _ e
          rw [e]
      · rw [if_neg hp, st.pd p o]
        constructor
        · rintro ⟨i', h1, h2⟩; exact ⟨i', .inl h1, h2⟩
        · rintro ⟨i', h1, h2⟩
          rcases h1 with h1 | rfl
          · exact ⟨i', h1, h2⟩
          · have := pw_place hX.one _ (hA1 _ h2) _ (hA1 _ hmem) rfl
            injection this with _ e
            injection e with e _
            exact (hp e).elim
    · by_cases hp : n = kt
      · subst hp; exact ⟨b, by simp⟩
      · rw [grow n hp] at hn3
        obtain ⟨o', ho'⟩ := st.fr n hn1 hn2 hn3
        exact ⟨o', by simp [hp, ho']⟩
    · have hkk := st.kk
      rw [grow n (fun e => by subst e; omega)]
      exact st.gr n hn
end
end DX

theorem PA.inv {s : Sf} {F : TT AV} {l : List RI} {ph : Ph} {r : List Ph} {E : TT AV} {D : List AD} {h : TT AO} {k : Pos} {Ef : TT AV} {Df : List AD} {hf : TT AO} {kf : Pos} {A : AL} (t : PA s F l (ph :: r) E D h k Ef Df hf kf A) :
    ∃ E1 h1 k1 p v D2 h2 k2 A' B, TA F h l E h k E1 h1 k1 A' ∧ ph.e.d = .ex p ∧ E1.get p = none ∧ (∀ K : KT, evG s (rv F [] E1) ph.e D h1 k1 K = K v D2 h2 k2) ∧ chkAll (E1.put p (some v)) F h2 ph.c = true ∧ PA s F ph.l r (E1.put p (some v)) D2 h2 k2 Ef Df hf kf B ∧ A = A' ++ B := by
  cases t with
  | more t hd hE he hc n => exact ⟨_, _, _, _, _, _, _, _, _, _, t, hd, hE, he, hc, n, rfl⟩
theorem PA.inv0 {s : Sf} {F : TT AV} {l : List RI} {E : TT AV} {D : List AD} {h : TT AO} {k : Pos} {Ef : TT AV} {Df : List AD} {hf : TT AO} {kf : Pos} {A : AL} (t : PA s F l [] E D h k Ef Df hf kf A) : TA F h l E h k Ef hf kf A ∧ D = Df := by
  cases t with
  | last t => exact ⟨t, rfl⟩

namespace DX
section
variable {X : DX} (hX : X.Ok) {S : Nat → Prop} {a : Act} {w : World} {j : Nat} {φ : Phi} {E : TT AV} {D : List AD} {h : TT AO} {k : Pos} {A0 A1 : AL} {pend : Pos → Option AO}
include hX

/-- a phase's blocks are made once all of its operations have been carried out. -/
theorem St.over (st : St X S a w j φ E D h k A0 A1 pend) {E1 : TT AV} {h1 : TT AO} {k1 : Pos} {A' : AL} (t : TA X.F h (atP X.an X.es X.pw X.ris j) E h k E1 h1 k1 A') (hsub : ∀ a ∈ A', a ∈ A1) (hS : ∀ i, hiOf X.an X.es i = j → i < X.ops.size → S i) :
    (∀ a ∈ A', ∃ i, S i ∧ a.1 = pos i) ∧ ∀ p o, h1.get p = some o → ovr pend (fun p => h.get p) p = some o := by
  have hlen := hX.c.len
  have key : ∀ a ∈ A', ∃ i, S i ∧ a.1 = pos i := by
    intro a ha
    obtain ⟨_, r, hr, hd, hal, _⟩ := t.at_ a ha
    obtain ⟨i, hi, hat⟩ := of_mem_atP hr
    have hlt : i < X.ops.size := by rw [← hlen]; exact (List.getElem?_eq_some_iff.1 hi).1
    obtain ⟨r', hr', _, _, hd'⟩ := hX.c.at (Array.getElem?_eq_getElem hlt)
    rw [hi] at hr'
    cases hr'
    rw [hd] at hd'
    injection hd' with hd'
    refine ⟨i, hS i ?_ hlt, hd'⟩
    simp only [isAt, hal, cond_true, Bool.and_eq_true] at hat
    exact Nat.eq_of_beq_eq_true hat.2
  refine ⟨key, fun p o hp => ?_⟩
  by_cases hin : ∃ a ∈ A', a.2.1 = p
  · obtain ⟨a, ha, rfl⟩ := hin
    obtain ⟨i, hSi, e⟩ := key a ha
    have h1 := (t.at_ a ha).1
    rw [h1] at hp
    cases hp
    have : pend a.2.1 = some a.2.2 := (st.pd _ _).2 ⟨i, hSi, by rw [← e]; exact hsub a ha⟩
    unfold ovr
    rw [this]
  · rw [t.old p (fun a ha e => hin ⟨a, ha, e⟩)] at hp
    exact st.part hX p o hp

/-- an operation that acts is carried out. -/
theorem St.step_ef (st : St X S a w j φ E D h k A0 A1 pend) {i : Nat} {o : Oper} {r : RI} (ho : X.ops[i]? = some o) (hr : X.ris[i]? = some r) (hco : compOper X.P X.dyn (ocD X.gm X.nt X.ops.toList X.an i) o = some r.o)
    (hgo : guardS (ocD X.gm X.nt X.ops.toList X.an i) X.ops.toList o = some r.g) (hrd : r.d = .ex (pos i)) (he : isEf r = true) (hS : ¬ S i) (hrdy : ∀ e ∈ o.after, Region.binds .any e = true → S e.on) {Fn : Fence} (hF : Fc X.φ0 X.rd Fn) {Q : Exit → Act → World → Prop} {next : Act → World → Prop}
    (hnext : ∀ a' w', Inv X (fun x => S x ∨ x = i) a' w' → next a' w') : wpOpIn Fn 0 X.P X.ops Q i next a w := by
  have hanc : ∀ x, (X.an.getD i 0).testBit x = true → S x := fun x hx => before_ready st.clo ho hrdy hx
  have hi : i < X.ops.size := (Array.getElem?_eq_some_iff.1 ho).1
  have uniq : ∀ q : Nat, X.es[q]? = some i → q = j := by
    intro q hq
    have h1 : ¬ q < j := fun hlt => hS ((st.eff q i hq).2 hlt)
    rcases Nat.lt_or_ge j q with h2 | h2
    · exfalso
      have hq1 : q < X.es.length := (List.getElem?_eq_some_iff.1 hq).1
      have hb := List.getElem?_eq_getElem (show q - 1 < X.es.length by omega)
      have hbit := chain_get hX.c.chain (q - 1) _ i hb (by rw [show q - 1 + 1 = q by omega]; exact hq)
      have := (st.eff _ _ hb).1 (hanc _ hbit)
      omega
    · omega
  obtain ⟨q, hq⟩ := List.mem_iff_getElem?.1 (mem_esOf.2 ⟨r, hr, he⟩)
  have hqj := uniq q hq
  subst hqj
  have hql : q < X.es.length := (List.getElem?_eq_some_iff.1 hq).1
  have hdrop : X.es.drop q = i :: X.es.drop (q + 1) := by
    rw [List.drop_eq_getElem_cons hql]
    congr 1
    rw [List.getElem?_eq_getElem hql] at hq
    exact Option.some.inj hq
  have hpa := st.pa
  rw [hdrop] at hpa
  simp only [phP, hr] at hpa
  obtain ⟨E1, h1, k1, p, v, D2, h2, k2, A', B, t, hd, hE, hev, hc, n, rfl⟩ := hpa.inv
  simp only at hd hev hc n
  rw [hrd] at hd
  injection hd with hd
  subst hd
  obtain ⟨j1, j2, b1, b2, b3, b4, b5, b6, b7⟩ := n.all hX.mono
  have hE1 : EL E1 X.Ef := (EL.put hE v).trans j1
  have hEv : X.Ef.get (pos i) = some v := EL.le_put j1
  have hk1 := t.le
  obtain ⟨key, hsub⟩ := st.over hX t (fun a ha => List.mem_append_left _ ha) (fun i' hi' _ => hanc i' (hiOf_at (by rw [hi']; exact hq)))
  have hmA : ∀ a ∈ A' ++ B, a ∈ X.A := fun a ha => by rw [st.aa]; exact List.mem_append_right _ ha
  obtain ⟨v1, D1, h3, k3, e1, e2, e3⟩ := guard_ok hX.ok hco hgo (d := r.d) (hev (fun _ _ _ _ => R.go .nrm .e [] .e .h))
  obtain ⟨rfl, rfl, rfl, rfl⟩ := kt_inj hev e1
  have hkk := st.kk
  have hnew : New φ k1 k2 := by
    intro m hm1 hm2
    refine Option.eq_none_iff_forall_ne_some.2 (fun L hL => ?_)
    obtain ⟨o', ho'⟩ := st.fr m (by omega) (by omega) (by rw [hL]; simp)
    obtain ⟨i', _, hm'⟩ := (st.pd m o').1 ho'
    rcases List.mem_append.1 hm' with hm' | hm'
    · have := t.rng _ hm'; simp only at this; omega
    · have := b2 _ hm'; simp only at this; omega
  refine e3 φ X.rd a w Fn next Q X.ops i rfl ho (st.rho hX hi hS hanc hE1) (st.hr.less hsub) st.df (hF.mono (st.le0 hX)) hnew (fun φ1 v' ds w1 hD hv hA => ?_)
  have hle : φ.le φ1 := hA.gr.le hnew
  have hrest : ∀ p o, (if k2.num ≤ p.num then pend p else none) = some o → ovr pend (fun p => h.get p) p = some o ∧ h1.get p = none := by
    intro p o' hp
    split at hp
    · rename_i hge
      refine ⟨by unfold ovr; rw [hp], ?_⟩
      rw [t.old p (fun a ha e => by have := (t.rng a ha).2; rw [e] at this; omega)]
      exact st.disj hX p o' hp
    · cases hp
  obtain ⟨hr1, ex1⟩ := frame (rest := fun p => if k2.num ≤ p.num then pend p else none) st.hr hsub hrest hA hle
  obtain ⟨s1, s2, s3, s4⟩ := st.slots hX ho hle hEv hv ds
  have clo' : ∀ (i' : Nat) (o' : Oper), X.ops[i']? = some o' → (S i' ∨ i' = i) → ∀ e ∈ o'.after, Region.binds .any e = true → S e.on ∨ e.on = i := by
    intro i' o' ho' hi' e he hb
    rcases hi' with hi' | rfl
    · exact .inl (st.clo i' o' ho' hi' e he hb)
    · rw [ho] at ho'
      cases ho'
      exact .inl (hrdy e he hb)
  refine hnext _ _ ⟨q + 1, φ1, E1.put (pos i) (some v), D2, h2, k2, A0 ++ A', B, fun p => if k2.num ≤ p.num then pend p else none, clo', fun p e hp => ?_, hql, n, by rw [st.aa, List.append_assoc], fun a ha => ?_, fun p o' => ?_, fun p o' hp => ?_, fun m hm1 hm2 hm3 => ?_, fun m hm => ?_, by omega, s2,
    fun x hx => hx.elim (st.lt x) (fun e => e ▸ hi), s3, s4, by rw [s1]; exact hD, hr1, st.ex.trans ex1, fun i' r' hr' hrd' hS' hlo' => ?_⟩
  · constructor
    · rintro (hSe | rfl)
      · have := (st.eff p e hp).1 hSe; omega
      · have := uniq p hp; omega
    · intro hlt
      rcases Nat.lt_or_ge p q with h' | h'
      · exact .inl ((st.eff p e hp).2 h')
      · have : p = q := by omega
        subst this
        rw [hq] at hp
        cases hp
        exact .inr rfl
  · rcases List.mem_append.1 ha with ha | ha
    · obtain ⟨i', x, y⟩ := st.a0 a ha; exact ⟨i', .inl x, y⟩
    · obtain ⟨i', x, y⟩ := key a ha; exact ⟨i', .inl x, y⟩
  · constructor
    · intro hp
      split at hp
      · obtain ⟨i', x, y⟩ := (st.pd p o').1 hp
        refine ⟨i', .inl x, ?_⟩
        rcases List.mem_append.1 y with y | y
        · have := t.rng _ y; simp only at this; omega
        · exact y
      · cases hp
    · rintro ⟨i', hi', hm⟩
      have := b2 _ hm
      simp only at this
      rw [if_pos this.1]
      rcases hi' with hSi | rfl
      · exact (st.pd p o').2 ⟨i', hSi, List.mem_append_right _ hm⟩
      · exfalso
        obtain ⟨i2, r2, hr2, e, _, hal, _⟩ := hX.gA _ (hmA _ (List.mem_append_right _ hm))
        have hlen := hX.c.len
        have := same_op hX hr (by rw [← hlen]; exact (List.getElem?_eq_some_iff.1 hr2).1) e
        subst this
        rw [hr] at hr2
        cases hr2
        unfold isAl at hal
        unfold isEf at he
        split at hal
        · rename_i hq2; rw [hq2] at he; cases he
        · cases hal
  · obtain ⟨v3, D3, h3, k3, hRl, heq⟩ := evG_rl hX.rl (hev (fun v D h k => R.go .nrm (.n .e (some v) .e) D h k))
    injection heq with x1 x2 x3 x4 x5
    subst x4 x5
    rcases hRl.dm p o' hp with ⟨o2, ho2⟩ | ⟨y1, y2⟩
    · by_cases hin : ∃ a ∈ A', a.2.1 = p
      · obtain ⟨a, ha, rfl⟩ := hin
        have := (t.rng a ha).2
        omega
      · rw [t.old p (fun a ha e => hin ⟨a, ha, e⟩)] at ho2
        have := st.dm p o2 ho2
        omega
    · exact .inl y2
  · have : φ1 m = φ m := hA.gr m (.inr hm1)
    rw [this] at hm3
    obtain ⟨o', ho'⟩ := st.fr m (by omega) hm2 hm3
    exact ⟨o', by simp only [hm1, if_true]; exact ho'⟩
  · rw [hA.gr m (by omega)]
    exact st.gr m hm
  · have hSi : ¬ S i' := fun x => hS' (.inl x)
    obtain ⟨Et, u, kt, x1, x2, x3⟩ := st.read hX hr' hrd' hSi (by omega)
    have hhi : q + 1 ≤ hiOf X.an X.es i' := by
      have h0 := st.hi hSi
      rcases Nat.lt_or_ge q (hiOf X.an X.es i') with h' | h'
      · exact h'
      · exfalso
        have : hiOf X.an X.es i' = q := by omega
        exact hSi (hanc i' (hiOf_at (by rw [this]; exact hq)))
    have hck := chkAll_mem hc _ (mem_chkP hr' hrd' hlo' hhi)
    exact ⟨E1.put (pos i) (some v), u, k2, j1, x2, chk_nf hck j1 x1 x2 x3 hrd'⟩
end
end DX
end Go.Ev
namespace Go.Ev
open Go

theorem dend_get {gs : List (Pos × Pos)} {E : TT AV} {D : List AD} {h : TT AO} {k : Pos} {x : X} {F' : TT AV} {D' : List AD} {h' : TT AO} {k' : Pos} : ∀ {F : TT AV}, dend F gs E D h k = .go x F' D' h' k' →
    ∀ p v, F'.get p = some v → (∃ g ∈ gs, g.1 = p ∧ E.get g.2 = some v) ∨ (F.get p = some v ∧ ∀ g ∈ gs, g.1 ≠ p) := by
  induction gs with
  | nil => intro F he p v hp; cases he; exact .inr ⟨hp, fun g hg => by simp at hg⟩
  | cons g gs ih =>
    intro F he p v hp
    change (match E.get g.2 with | some v => dend (F.put g.1 (some v)) gs E D h k | none => .bad 46) = _ at he
    split at he
    · rename_i u hu
      rcases ih he p v hp with ⟨g', h1, h2, h3⟩ | ⟨h1, h2⟩
      · exact .inl ⟨g', by simp [h1], h2, h3⟩
      · rw [get_put] at h1
        split at h1
        · rename_i e
          cases h1
          exact .inl ⟨g, by simp, e.symm, hu⟩
        · rename_i hne
          refine .inr ⟨h1, fun g' hg' => ?_⟩
          rcases List.mem_cons.1 hg' with rfl | hg'
          · exact fun e => hne e.symm
          · exact h2 g' hg'
    · cases he
theorem mem_gsP {gm : Nat} {ops : List Oper} {g : Pos × Pos} : g ∈ gsP gm ops ↔ ∃ (i : Nat) (o : Oper) (d : Tmp), ops[i]? = some o ∧ o.dst = some d ∧ kept gm d = true ∧ g = (pos d, pos i) := by
  unfold gsP
  rw [List.mem_filterMap]
  constructor
  · rintro ⟨i, _, h⟩
    split at h
    · rename_i o ho
      split at h
      · rename_i d hd
        rcases cond_eq_true h with ⟨h1, h2⟩ | ⟨_, h2⟩
        · cases h2; exact ⟨i, o, d, ho, hd, h1, rfl⟩
        · cases h2
      · cases h
    · cases h
  · rintro ⟨i, o, d, ho, hd, hk, rfl⟩
    refine ⟨i, List.mem_range.2 (List.getElem?_eq_some_iff.1 ho).1, ?_⟩
    simp only [ho, hd, hk, cond_true]

namespace DX
section
variable {X : DX} (hX : X.Ok) {S : Nat → Prop} {a : Act} {w : World}
include hX

theorem Inv.fin (hI : Inv X S a w) (hall : ∀ i, i < X.ops.size → S i) {x : Ev.X} {F1 : TT AV} {D1 : List AD} {h1 : TT AO} {k1 : Pos} (he : dend X.F (gsP X.gm X.ops.toList) X.Ef X.Df X.hf X.kf = .go x F1 D1 h1 k1) :
    CPost X.P X.dyn X.φ0 X.rd X.gm X.nt X.h0 X.w0 X.k0 x F1 D1 h1 k1 .normal a w := by
  obtain ⟨j, φ, E, D, h, k, A0, A1, pend, st⟩ := hI
  have hlen := hX.c.len
  have hj : j = X.es.length := by
    rcases Nat.lt_or_ge j X.es.length with hlt | hge
    · exfalso
      have hq := List.getElem?_eq_getElem hlt
      obtain ⟨r, hr, _⟩ := mem_esOf.1 (List.mem_of_getElem? hq)
      have := (st.eff _ _ hq).1 (hall _ (by rw [← hlen]; exact (List.getElem?_eq_some_iff.1 hr).1))
      omega
    · exact Nat.le_antisymm st.jle hge
  have hpa := st.pa
  rw [List.drop_eq_nil_iff.2 (Nat.le_of_eq hj.symm)] at hpa
  simp only [phP] at hpa
  obtain ⟨t, hD⟩ := hpa.inv0
  obtain ⟨rfl, rfl, rfl, rfl⟩ := dph_end he
  obtain ⟨_, hsub⟩ := st.over hX t (fun a ha => ha) (fun i _ hi => hall i hi)
  refine ⟨rfl, φ, ⟨st.sz, fun u v hu hv => ?_⟩, by rw [← hD]; exact st.df, st.gr, st.hr.less hsub, ?_⟩
  · rcases dend_get he (pos u) v hv with ⟨g, hg, h1, h2⟩ | ⟨h1, h2⟩
    · obtain ⟨i, o, d, ho, hd, hk, rfl⟩ := mem_gsP.1 hg
      rw [Array.getElem?_toList] at ho
      have hdl := tmp_lt hX ho hd
      have hnt := hX.nt
      have : d = u := pos_inj (by omega) (by omega) h1
      subst this
      obtain ⟨v', a1, a2⟩ := st.val i o d (hall i (Array.getElem?_eq_some_iff.1 ho).1) ho hd v h2
      exact ⟨hk, v', a1, a2⟩
    · obtain ⟨a1, a2⟩ := st.old u v hu h1
      refine ⟨a1, a2 (fun i o _ ho hd => ?_)⟩
      exact h2 (pos u, pos i) (mem_gsP.2 ⟨i, o, u, by rw [Array.getElem?_toList]; exact ho, hd, a1, rfl⟩) rfl
  · exact ⟨st.ex.sz, st.ex.os, st.ex.out, st.ex.tape, st.ex.fr, fun b hb hi => st.ex.im b hb (by
      obtain ⟨n, o, L, x, y, z⟩ := hi
      exact ⟨n, o, L, hsub n o x, y, z⟩)⟩

theorem all_listed {listed : Array Bool} (hsz : listed.size = X.ops.size) (hr : Region.ready .any X.ops listed = []) : ∀ i, i < X.ops.size → listed.getD i false = true := by
  intro i
  induction i using Nat.strongRecOn with
  | _ i ih =>
    intro hi
    cases hl : listed.getD i false with
    | true => rfl
    | false =>
      exfalso
      have hlt : i < listed.size := by omega
      have hm : i ∈ Region.ready .any X.ops listed := by
        refine mem_ready.2 ⟨?_, X.ops[i], Array.getElem?_eq_getElem hi, fun e he hb => ?_⟩
        · simpa [Array.getD, hlt] using hl
        · have h1 := List.all_eq_true.1 hX.c.after i (List.mem_range.2 (by simpa using hi))
          have ho : X.ops.toList[i]? = some X.ops[i] := by rw [Array.getElem?_toList]; exact Array.getElem?_eq_getElem hi
          rw [ho] at h1
          have h2 := List.all_eq_true.1 h1 e (by rw [Array.mem_toList_iff]; exact he)
          simp only [hb, Bool.not_true, Bool.false_or, blt_iff] at h2
          have h3 : e.on < i := by simpa using h2
          exact ih e.on h3 (by omega)
      rw [hr] at hm
      simp at hm

theorem any_ok {Fn : Fence} (hF : Fc X.φ0 X.rd Fn) {Q : Exit → Act → World → Prop} (hQ : ∀ S a w, (∀ i, i < X.ops.size → S i) → Inv X S a w → Q .normal a w) :
    ∀ (fuel : Nat) (listed : Array Bool) (a : Act) (w : World) (S : Nat → Prop), listed.size = X.ops.size → listed.toList.count false ≤ fuel → (∀ i, S i ↔ listed.getD i false = true) → Inv X S a w →
      wpAnyIn Fn 0 X.P .any X.ops Q fuel listed a w
  | 0, listed, a, w, S, hsz, hc, hS, hI => by
    have hall : ∀ i, i < X.ops.size → listed.getD i false = true := by
      intro i hi
      have hlt : i < listed.size := by omega
      have h0 : false ∉ listed.toList := List.count_eq_zero.1 (Nat.le_zero.1 hc)
      cases hb : listed[i] with
      | true => simp [Array.getD, hlt, hb]
      | false => exact (h0 (by rw [← hb]; exact Array.getElem_mem_toList hlt)).elim
    refine ⟨?_, hQ S a w (fun i hi => (hS i).2 (hall i hi)) hI⟩
    cases hr : Region.ready .any X.ops listed with
    | nil => rfl
    | cons i l =>
      exfalso
      have hm : i ∈ Region.ready .any X.ops listed := by rw [hr]; simp
      obtain ⟨h1, o, ho, _⟩ := mem_ready.1 hm
      have hi : i < X.ops.size := (Array.getElem?_eq_some_iff.1 ho).1
      have h2 := hall i hi
      have hlt : i < listed.size := by omega
      simp [Array.getD, hlt] at h1 h2
      rw [h1] at h2
      cases h2
  | fuel + 1, listed, a, w, S, hsz, hc, hS, hI => by
    refine ⟨fun hr => hQ S a w (fun i hi => (hS i).2 (all_listed hX hsz hr i hi)) hI, fun i hi => ?_⟩
    obtain ⟨h1, o, ho, hrdy⟩ := mem_ready.1 hi
    have hlt : i < X.ops.size := (Array.getElem?_eq_some_iff.1 ho).1
    have hlt' : i < listed.size := by omega
    have hli : listed[i] = false := by simpa [Array.getD, hlt'] using h1
    have hnS : ¬ S i := fun hx => by
      have := (hS i).1 hx
      simp [Array.getD, hlt', hli] at this
    obtain ⟨r, hr, hco, hgo, hd⟩ := hX.c.at ho
    have hnext : ∀ a' w', Inv X (fun x => S x ∨ x = i) a' w' → wpAnyIn Fn 0 X.P .any X.ops Q fuel (listed.setIfInBounds i true) a' w' := by
      intro a' w' hI'
      refine any_ok hF hQ fuel _ a' w' _ (by simp [hsz]) ?_ (fun x => ?_) hI'
      · rw [Array.toList_setIfInBounds, List.count_set (by simpa using hlt')]
        have hli' : listed.toList[i]'(by simpa using hlt') = false := by simpa using hli
        rw [hli']
        simp only [BEq.rfl, if_true, show (true == false) = false from rfl, Bool.false_eq_true, if_false]
        omega
      · rw [hS x]
        by_cases hx : i = x
        · subst hx
          simp [Array.getD, hlt']
        · rw [getD_set_ne false hx]
          constructor
          · rintro (h | h)
            · exact h
            · exact (hx h.symm).elim
          · exact .inl
    have hrdy' : ∀ e ∈ o.after, Region.binds .any e = true → S e.on := fun e he hb => (hS _).2 (hrdy e he hb)
    obtain ⟨j, φ, E, D, h, k, A0, A1, pend, st⟩ := hI
    cases hef : isEf r with
    | true => exact st.step_ef hX ho hr hco hgo hd hef hnS hrdy' hF hnext
    | false => exact st.step_nf hX ho hr hco hgo hef hnS hrdy' hF hnext
end
end DX

theorem phP_mem {an es pw : List Nat} {ris : List RI} : ∀ {l : List Nat} {k : Nat} {p : Ph}, p ∈ phP an es pw ris l k → ∃ (j e : Nat) (r : RI), e ∈ l ∧ ris[e]? = some r ∧ p = ⟨r, chkP an es ris j, atP an es pw ris j⟩
  | [], _, _, h => by simp [phP] at h
  | e :: l, k, p, h => by
    simp only [phP] at h
    split at h
    · rename_i r hr
      rcases List.mem_cons.1 h with rfl | h
      · exact ⟨k + 1, e, r, by simp, hr, rfl⟩
      · obtain ⟨j, e', r', a, b, c⟩ := phP_mem h
        exact ⟨j, e', r', by simp [a], b, c⟩
    · simp at h

section
variable {P : Program} {dyn : List TypeId}
theorem dr_ok (hm : P.follows .mixedOrders = true) {s : Sf} (hs : SfOk P dyn s) (hmo : SfMono s) (hrl : SfRl s) : DrOk P dyn s := by
  intro id ops gm nt l ph gs hc hnt rd F D h k x F1 D1 h1 k1 he φ w a Fn hT hD hF hh hn
  obtain ⟨ris, hC, heq⟩ := compDraw_inv hc
  injection heq with e1 e2 e3
  subst e1 e2 e3
  have hlen := hC.len
  have hat : ∀ (j : Nat) (r : RI), r ∈ atP (anc ops) (esOf ris) (pwOf ops ris) ris j → ∃ (i : Nat), ris[i]? = some r ∧ isEf r = false ∧ r.d = .ex (pos i) := by
    intro j r hr
    obtain ⟨i, hi, ha⟩ := of_mem_atP hr
    simp only [isAt, Bool.and_eq_true, Bool.not_eq_true'] at ha
    have hlt : i < ops.size := by rw [← hlen]; exact (List.getElem?_eq_some_iff.1 hi).1
    obtain ⟨r', hr', _, _, hd'⟩ := hC.at (Array.getElem?_eq_getElem hlt)
    rw [hi] at hr'
    cases hr'
    exact ⟨i, hi, ha.1, hd'⟩
  obtain ⟨Ef, Df, hf, kf, hpt, hend⟩ := dph_pt _ _ _ _ _ _ (fun r hr => let ⟨_, _, x, _⟩ := hat 0 r hr; x) (fun p hp => by
    obtain ⟨j, e, r, h1, h2, rfl⟩ := phP_mem hp
    obtain ⟨r', h3, h4⟩ := mem_esOf.1 h1
    rw [h2] at h3
    cases h3
    refine ⟨fun r hr => let ⟨_, _, x, _⟩ := hat j r hr; x, fun q hq => ?_, ?_⟩
    · simp only at hq
      unfold isEf at h4
      rw [hq] at h4
      cases h4
    · intro ρ D h k K x F' D' h' k' hev
      have hlt : e < ops.size := by rw [← hlen]; exact (List.getElem?_eq_some_iff.1 h2).1
      obtain ⟨r', hr', hco, hgo, _⟩ := hC.at (Array.getElem?_eq_getElem hlt)
      rw [h2] at hr'
      cases hr'
      obtain ⟨v, D1, h1, k1, x1, _⟩ := guard_ok hs hco hgo (d := r.d) hev
      exact ⟨v, D1, h1, k1, x1⟩) he
  obtain ⟨A, hpa⟩ := hpt.pa
  obtain ⟨a1, a2, a3, a4, a5, a6, a7, a8, a9⟩ := hpa.all hmo
  obtain ⟨_, _, _, hk1⟩ := dph_end hend
  subst hk1
  let X : DX := ⟨P, dyn, gm, nt, ops, ris, s, rd, F, h, k, w, φ, Ef, Df, hf, k1, A⟩
  have hX : X.Ok := by
    refine ⟨hC, hs, hmo, hrl, hnt, a3, a8, fun i r hi hr => ?_, fun a ha => ?_, hn⟩
    · have hwhen : ∃ j, isAt (anc ops) (esOf ris) (pwOf ops ris) j i r = true ∧ j ≤ (esOf ris).length := by
        refine ⟨cond (isAl r) (hiOf (anc ops) (esOf ris) i) (cond (isRd r) (loOf (anc ops) (esOf ris) i) ((pwOf ops ris).getD i 0)), ?_, ?_⟩
        · simp [isAt, hr]
        · cases isAl r with
          | true => exact hiOf_le _ _ _
          | false =>
            cases isRd r with
            | true => exact List.length_filter_le _ _
            | false =>
              have := List.all_eq_true.1 hC.wh i (List.mem_range.2 (List.getElem?_eq_some_iff.1 hi).1)
              rw [ble_iff] at this
              simpa using this
      obtain ⟨j, hj, hle⟩ := hwhen
      cases j with
      | zero => exact a5 r (mem_atP hi hj)
      | succ j =>
        obtain ⟨e, hej⟩ : ∃ e, (esOf ris)[j]? = some e := ⟨_, List.getElem?_eq_getElem (by omega)⟩
        obtain ⟨re, _, hph⟩ := phP_get (anc := anc ops) (es := esOf ris) (pw := pwOf ops ris) (esOf ris) 0 j e (fun e he => let ⟨r, h1, _⟩ := mem_esOf.1 he; ⟨r, h1⟩) hej
        have := (a6 _ (List.mem_of_getElem? hph)).1 r
        simp only at this
        exact this (by rw [show 0 + j + 1 = j + 1 by omega]; exact mem_atP hi hj)
    · have : ∃ j r, r ∈ atP (anc ops) (esOf ris) (pwOf ops ris) ris j ∧ AlF F Ef r a := by
        rcases a7 a ha with ⟨r, h1, h2⟩ | ⟨p, hp, r, h1, h2⟩
        · exact ⟨0, r, h1, h2⟩
        · obtain ⟨j, e, r', _, _, rfl⟩ := phP_mem hp
          exact ⟨j, r, h1, h2⟩
      obtain ⟨j, r, h1, h2⟩ := this
      obtain ⟨i, hi, _, hd⟩ := hat j r h1
      have h3 := h2.1
      rw [hd] at h3
      injection h3 with h3
      exact ⟨i, r, hi, h3.symm, h2⟩
  refine wpIn_region_any hm (DX.any_ok (X := X) hX hF (fun S a w hall hI => hI.fin hX hall hend) ops.size _ a _ (fun _ => False) (by simp [X]) (by simp) (fun i => ?_) ?_)
  · simp [Array.getD]
  · have hovr : (ovr (fun _ => none) fun p => h.get p) = fun p => h.get p := rfl
    refine ⟨0, φ, .e, D, h, k, [], A, fun _ => none, fun i o _ hS => hS.elim, fun p e _ => ⟨fun hS => hS.elim, fun h0 => by omega⟩, Nat.zero_le _, hpa, rfl, fun a ha => by simp at ha, fun p o => ⟨fun h0 => (by cases h0), fun ⟨i, hi, _⟩ => hi.elim⟩,
      fun p o hp => ?_, fun m h1 h2 h3 => (h3 (hn m h1 h2)).elim, fun _ _ => rfl, Nat.le_refl _, hT.size, fun i hi => hi.elim, fun i o d hi => hi.elim, fun t v ht hv => ?_, hD, ?_, ?_, fun i r _ _ _ h0 => by omega⟩
    · obtain ⟨L, ob, hL, _⟩ := hh.blk p o hp
      by_cases hx : p.num < k.num ∨ k1.num ≤ p.num
      · exact hx
      · have := hn p (by omega) (by omega)
        rw [this] at hL
        cases hL
    · obtain ⟨b1, b2⟩ := hT.slot t v ht hv
      exact ⟨b1, fun _ => b2⟩
    · rw [hovr]
      exact hh.heap_eq (fun _ _ _ _ _ => rfl)
    · rw [hovr]
      exact ⟨Nat.le_refl _, rfl, rfl, rfl, fun _ _ _ => rfl, fun _ _ h => h⟩

theorem self_ok (hm : P.follows .mixedOrders = true) {T : TT CFn} {quiet : Pos → Bool} (hT : TblOk P dyn T) (hq : QuietOk P quiet) : ∀ n, SfAll P dyn (self T quiet n)
  | 0 => by
    have h1 : SfOk P dyn (self T quiet 0) := by
      constructor
      · intro f l h k v h1 k1 he
        have he : RV.bad 71 = .go v h1 k1 := he
        cases he
      · intro c rd F D h k x F1 D1 h1 k1 he
        have he : R.bad 70 = .go x F1 D1 h1 k1 := he
        cases he
    refine ⟨h1, self_mono T quiet 0, ?_, dr_ok hm h1 (self_mono T quiet 0) (self_rl T quiet 0)⟩
    intro c rd F D h k x F1 D1 h1 k1 he
    have he : R.bad 70 = .go x F1 D1 h1 k1 := he
    cases he
  | n + 1 => by
    have ih := self_ok hm hT hq n
    have h1 : SfOk P dyn (self T quiet (n + 1)) := by
      constructor
      · exact stC_ok hT hq ih
      · intro c rd F D h k x F1 D1 h1 k1 he
        refine ⟨stX_mono ih.mono he, fun code gm nt hint hc hnt => ?_⟩
        exact stX_ok ih hnt (fun f ps a b x y cf h1 h2 h3 h4 => rf_ok ih hnt f ps a b x y cf h1 h2 h3 h4) code hint c hc rd F D h k x F1 D1 h1 k1 he
    exact ⟨h1, self_mono T quiet (n + 1), lo_ok ih, dr_ok hm h1 (self_mono T quiet (n + 1)) (self_rl T quiet (n + 1))⟩

/-- a call that the evaluator has run. -/
theorem self_calls (hm : P.follows .mixedOrders = true) {T : TT CFn} {quiet : Pos → Bool} (hT : TblOk P dyn T) (hq : QuietOk P quiet) {n : Nat} {f : Pos} {l : List AV} {h : TT AO} {k : Pos} {v : AV} {h1 : TT AO} {k1 : Pos}
    (he : (self T quiet n).ca f l h k = .go v h1 k1) (φ : Phi) (w : World) (args : Array Value) (ha : VRs φ l args.toList) (hh : HR P dyn φ (fun p => h.get p) w) (hn : ∀ n : Pos, k.num ≤ n.num → φ n = none) :
    Calls P (f.num - 1) args w (RetTo P dyn φ h w k v h1 k1) :=
  callsIn_wide.1 (((self_ok hm hT hq n).ok.ca _ _ _ _ _ _ _ he).2.2 φ w args ha hh (fun m a _ => hn m a))
end
end Go.Ev
