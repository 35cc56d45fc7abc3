/- An evaluator whose answers are the machine's, proved once; part 5. No condition. -/
import Derived.Test.YtmcigdddcknmmaaGreatEv4
namespace Go.Ev
open Go

section
variable {P : Program} {dyn : List TypeId}

/-! ### Calls answered from without -/
structure HandOk (P : Program) (dyn : List TypeId) (hand : Hand) : Prop where
  ca : ∀ f l h k v h1 k1, hand f l h k = some (.go v h1 k1) → k.num ≤ k1.num ∧ (∀ args w, (callFunc (f.num - 1) args).run P w = .ok (.enter (f.num - 1) args) w) ∧
    ∀ φ w (args : Array Value), VRs φ l args.toList → HR P dyn φ (fun p => h.get p) w → New φ k k1 → CallsIn Fence.wide 0 P (f.num - 1) args w (RetTo P dyn φ h w k v h1 k1)
  rl : ∀ f l h k v h1 k1, hand f l h k = some (.go v h1 k1) → Rl h k h1 k1
theorem stH_cases {T : TT CFn} {quiet : Pos → Bool} {hand : Hand} {s : Sf} {f : Pos} {l : List AV} {h : TT AO} {k : Pos} {r : RV} (he : stH T quiet hand s f l h k = r) : hand f l h k = some r ∨ stC T quiet s f l h k = r := by
  unfold stH at he
  split at he
  · rename_i r' hr'
    subst he
    exact .inl hr'
  · exact .inr he
theorem selfH_mono {T : TT CFn} {quiet : Pos → Bool} {hand : Hand} (hh : HandOk P dyn hand) : ∀ n, SfMono (selfH T quiet hand n)
  | 0 => by
    constructor
    · intro f l h k v h1 k1 he
      have he : RV.bad 71 = .go v h1 k1 := he
      cases he
    · intro c rd F D h k x F1 D1 h1 k1 he
      have he : R.bad 70 = .go x F1 D1 h1 k1 := he
      cases he
  | n + 1 => ⟨fun f l h k v h1 k1 he => by
      rcases stH_cases (show stH T quiet hand (selfH T quiet hand n) f l h k = _ from he) with h' | h'
      · exact (hh.ca _ _ _ _ _ _ _ h').1
      · exact stC_mono (selfH_mono hh n) h', fun _ _ _ _ _ _ _ _ _ _ _ h => stX_mono (selfH_mono hh n) h⟩
theorem selfH_rl {T : TT CFn} {quiet : Pos → Bool} {hand : Hand} (hh : HandOk P dyn hand) : ∀ n, SfRl (selfH T quiet hand n)
  | 0 => by
    constructor
    · intro f l h k v h1 k1 he
      have he : RV.bad 71 = .go v h1 k1 := he
      cases he
    · intro c rd F D h k x F1 D1 h1 k1 he
      have he : R.bad 70 = .go x F1 D1 h1 k1 := he
      cases he
  | n + 1 => ⟨fun f l h k v h1 k1 he => by
      rcases stH_cases (show stH T quiet hand (selfH T quiet hand n) f l h k = _ from he) with h' | h'
      · exact hh.rl _ _ _ _ _ _ _ h'
      · exact stC_rl (selfH_rl hh n) h', fun _ _ _ _ _ _ _ _ _ _ _ h => stX_rl (selfH_rl hh n) h⟩
theorem selfH_ok (hm : P.follows .mixedOrders = true) {T : TT CFn} {quiet : Pos → Bool} {hand : Hand} (hT : TblOk P dyn T) (hq : QuietOk P quiet) (hh : HandOk P dyn hand) : ∀ n, SfAll P dyn (selfH T quiet hand n)
  | 0 => by
    have h1 : SfOk P dyn (selfH T quiet hand 0) := by
      constructor
      · intro f l h k v h1 k1 he
        have he : RV.bad 71 = .go v h1 k1 := he
        cases he
      · intro c rd F D h k x F1 D1 h1 k1 he
        have he : R.bad 70 = .go x F1 D1 h1 k1 := he
        cases he
    refine ⟨h1, selfH_mono hh 0, ?_, dr_ok hm h1 (selfH_mono hh 0) (selfH_rl hh 0)⟩
    intro c rd F D h k x F1 D1 h1 k1 he
    have he : R.bad 70 = .go x F1 D1 h1 k1 := he
    cases he
  | n + 1 => by
    have ih := selfH_ok hm hT hq hh n
    have h1 : SfOk P dyn (selfH T quiet hand (n + 1)) := by
      constructor
      · intro f l h k v h1 k1 he
        rcases stH_cases (show stH T quiet hand (selfH T quiet hand n) f l h k = _ from he) with h' | h'
        · exact hh.ca _ _ _ _ _ _ _ h'
        · exact stC_ok hT hq ih _ _ _ _ _ _ _ h'
      · intro c rd F D h k x F1 D1 h1 k1 he
        refine ⟨stX_mono ih.mono he, fun code gm nt hint hc hnt => ?_⟩
        exact stX_ok ih hnt (fun f ps a b x y cf h1 h2 h3 h4 => rf_ok ih hnt f ps a b x y cf h1 h2 h3 h4) code hint c hc rd F D h k x F1 D1 h1 k1 he
    exact ⟨h1, selfH_mono hh (n + 1), lo_ok ih, dr_ok hm h1 (selfH_mono hh (n + 1)) (selfH_rl hh (n + 1))⟩

/-! ### Parts of trees -/
theorem subT_get {α : Type} {eq : α → α → Bool} (he : ∀ x y, eq x y = true → x = y) : ∀ {a b : TT α}, subT eq a b = true → ∀ p v, a.get p = some v → b.get p = some v
  | .e, _, _, p, v, h => by rw [get_e] at h; cases h
  | .n l x r, .e, hs, _, _, _ => by cases hs
  | .n l x r, .n l' x' r', hs, p, v, h => by
    simp only [subT, Bool.and_eq_true] at hs
    obtain ⟨⟨h1, h2⟩, h3⟩ := hs
    cases p with
    | h =>
      change x = some v at h
      subst h
      change x' = some v
      cases x' with
      | none => cases h2
      | some y => rw [he _ _ h2]
    | o q => exact subT_get he h1 q v h
    | i q => exact subT_get he h3 q v h
theorem allL_eq {α : Type} {eq : α → α → Bool} (he : ∀ x y, eq x y = true → x = y) : ∀ {a b : List α}, allL eq a b = true → a = b
  | [], [], _ => rfl
  | [], _ :: _, h => by cases h
  | _ :: _, [], h => by cases h
  | x :: a, y :: b, h => by
    have h := Bool.and_eq_true_iff.1 (show (eq x y && allL eq a b) = true from h)
    rw [he _ _ h.1, allL_eq he h.2]
theorem sameO_eq {a b : AO} (h : sameO a b = true) : a = b := by
  have hs := same_eq 12
  have hb : ∀ x y : Nat, Nat.beq x y = true → x = y := fun x y h => Nat.eq_of_beq_eq_true h
  unfold sameO at h
  split at h
  · simp only [Bool.and_eq_true] at h
    rw [allL_eq hs h.1, eq_of_beq h.2]
  · rw [allL_eq hs h]
  · simp only [Bool.and_eq_true] at h
    rw [allL_eq (fun x y hxy => ?_) h.1, hb _ _ h.2]
    simp only [Bool.and_eq_true] at hxy
    obtain ⟨⟨h1, h2⟩, h3⟩ := hxy
    obtain ⟨x1, x2, x3⟩ := x
    obtain ⟨y1, y2, y3⟩ := y
    simp only at h1 h2 h3
    rw [hs _ _ h1, hs _ _ h2, hb _ _ h3]
  · simp only [Bool.and_eq_true] at h
    obtain ⟨⟨⟨h1, h2⟩, h3⟩, h4⟩ := h
    rw [posSame_eq h1, hb _ _ h2, allL_eq hb h3, hb _ _ h4]
  · rfl
  · simp only [Bool.and_eq_true] at h
    rw [allL_eq hb h.1, hb _ _ h.2]
  · rfl
  · rfl
  · cases h
theorem inS_inv {a : S3} {F : TT AV} {h : TT AO} {k : Pos} (hs : inS a F h k = true) : a.k = k ∧ (∀ p v, a.F.get p = some v → F.get p = some v) ∧ ∀ p o, a.h.get p = some o → h.get p = some o := by
  simp only [inS, Bool.and_eq_true] at hs
  exact ⟨posSame_eq hs.1.1, subT_get (same_eq 12) hs.1.2, subT_get (fun _ _ => sameO_eq) hs.2⟩
theorem atS_inv {x : X} {a : S3} {r : R} (hs : atS x a r = true) : ∃ F h, r = .go x F [] h a.k ∧ (∀ p v, a.F.get p = some v → F.get p = some v) ∧ ∀ p o, a.h.get p = some o → h.get p = some o := by
  cases r with
  | bad w => cases hs
  | go y F D h k =>
    simp only [atS, Bool.and_eq_true] at hs
    obtain ⟨⟨h1, h2⟩, h3⟩ := hs
    obtain ⟨rfl, h4, h5⟩ := inS_inv h3
    have hx : x = y := by
      cases x <;> cases y <;> simp only [sameX, Bool.false_eq_true] at h1 <;> first | rfl | rw [Nat.eq_of_beq_eq_true h1]
    have hD : D = [] := by cases D with | nil => rfl | cons _ _ => cases h2
    subst hx hD
    exact ⟨F, h, rfl, h4, h5⟩

/-! ### Less is known -/
theorem TR.less {φ : Phi} {gm nt : Nat} {F F' : TT AV} {tmps : Array Value} (h : TR φ gm nt (fun p => F.get p) tmps) (hs : ∀ p v, F'.get p = some v → F.get p = some v) : TR φ gm nt (fun p => F'.get p) tmps :=
  ⟨h.size, fun t v ht hv => h.slot t v ht (hs _ _ hv)⟩
theorem Aft.less {φ φ1 : Phi} {h h1 h2 : TT AO} {w w1 : World} {k k1 : Pos} (h0 : Aft P dyn φ h w k φ1 h1 w1 k1) (hs : ∀ p o, h2.get p = some o → h1.get p = some o) : Aft P dyn φ h w k φ1 h2 w1 k1 :=
  ⟨h0.gr, h0.hr.less hs, ⟨h0.ex.sz, h0.ex.os, h0.ex.out, h0.ex.tape, h0.ex.fr, fun b hb hi => h0.ex.im b hb (by
    obtain ⟨n, o, L, x, y, z⟩ := hi
    exact ⟨n, o, L, hs n o x, y, z⟩)⟩⟩
theorem CPost.less {φ : Phi} {rd : Option Pos} {gm nt : Nat} {h h1 h2 : TT AO} {w w1 : World} {k k1 : Pos} {x : X} {F1 F2 : TT AV} {D1 : List AD} {e : Exit} {a : Act} (hp : CPost P dyn φ rd gm nt h w k x F1 D1 h1 k1 e a w1)
    (hF : ∀ p v, F2.get p = some v → F1.get p = some v) (hs : ∀ p o, h2.get p = some o → h1.get p = some o) : CPost P dyn φ rd gm nt h w k x F2 D1 h2 k1 e a w1 := by
  obtain ⟨he, φ1, a1, a2, a3⟩ := hp
  exact ⟨he, φ1, a1.less hF, a2, a3.less hs⟩
/-- from a memory of which less is known. -/
theorem Aft.from {φ φ1 : Phi} {h h' h1 : TT AO} {w w1 : World} {k k1 : Pos} (h0 : Aft P dyn φ h' w k φ1 h1 w1 k1) (hs : ∀ p o, h'.get p = some o → h.get p = some o) : Aft P dyn φ h w k φ1 h1 w1 k1 := by
  have im : ∀ b, Img φ (fun p => h'.get p) b → Img φ (fun p => h.get p) b := by
    rintro b ⟨n, o, L, x, y, z⟩
    exact ⟨n, o, L, hs n o x, y, z⟩
  exact ⟨h0.gr, h0.hr, ⟨h0.ex.sz, h0.ex.os, h0.ex.out, h0.ex.tape, fun b hb hi => h0.ex.fr b hb (fun hx => hi (im b hx)), fun b hb hi => im b (h0.ex.im b hb hi)⟩⟩

/-! ### A loop's rounds in parts -/
theorem rnds_ok {s : Sf} (hs : SfAll P dyn s) (body : CC) : ∀ (m : Nat) (F : TT AV) (h : TT AO) (k : Pos) (x : X) (F1 : TT AV) (D1 : List AD) (h1 : TT AO) (k1 : Pos), rnds s.ex body m F h k = .go x F1 D1 h1 k1 → x = .nrm ∧ D1 = [] ∧ k.num ≤ k1.num ∧
    ∀ (m' : Nat) code gm nt hint, compH P dyn gm nt code hint = some body → nt ≤ 65536 → ∀ φ w a Fn Q, TR φ gm nt (fun p => F.get p) a.tmps → DR φ none [] a.defers → Fc φ none Fn → HR P dyn φ (fun p => h.get p) w → New φ k k1 →
      (∀ φ1 a1 w1, TR φ1 gm nt (fun p => F1.get p) a1.tmps → DR φ1 none [] a1.defers → Aft P dyn φ h w k φ1 h1 w1 k1 → code.roundsIn Fn 0 P Q m' a1 w1) → code.roundsIn Fn 0 P Q (m + m') a w
  | 0, F, h, k, x, F1, D1, h1, k1, he => by
    change R.go .nrm F [] h k = _ at he
    cases he
    refine ⟨rfl, rfl, Nat.le_refl _, fun m' code gm nt hint hc hnt φ w a Fn Q hT hD hF hh hn hQ => ?_⟩
    rw [Nat.zero_add]
    exact hQ φ a w hT hD (Aft.refl hh)
  | m + 1, F, h, k, x, F1, D1, h1, k1, he => by
    change (match s.ex body none F [] h k with | R.go .nrm F [] h k => rnds s.ex body m F h k | R.go .. => R.bad 81 | R.bad w => R.bad w) = _ at he
    split at he
    · rename_i F2 h2 k2 hx
      obtain ⟨l1, hA⟩ := hs.ok.ex _ _ _ _ _ _ _ _ _ _ _ hx
      obtain ⟨rfl, rfl, l2, hB⟩ := rnds_ok hs body m F2 h2 k2 x F1 D1 h1 k1 he
      refine ⟨rfl, rfl, Nat.le_trans l1 l2, fun m' code gm nt hint hc hnt φ w a Fn Q hT hD hF hh hn hQ => ?_⟩
      rw [show m + 1 + m' = (m + m') + 1 by omega, roundsIn_succ]
      refine wpIn_mono (hA code gm nt hint hc hnt φ w a Fn hT hD hF hh (hn.left l2)) ?_
      rintro e a2 w2 ⟨rfl, φ2, hT2, hD2, hA2⟩
      have hle := hA2.le (hn.left l2)
      exact hB m' code gm nt hint hc hnt φ2 w2 a2 Fn Q hT2 hD2 (hF.mono hle) hA2.hr (hn.right l1 hA2.gr) (fun φ1 a1 w1 hT1 hD1 hA1 => hQ φ1 a1 w1 hT1 hD1 (Aft.trans l1 l2 hA2 hA1))
    · cases he
    · cases he

/-- the rest of a loop, from where it stands: how it ends. -/
def Rest (P : Program) (dyn : List TypeId) (body : CC) (S : S3) (x : X) (E : S3) : Prop :=
  S.k.num ≤ E.k.num ∧ ∃ m, ∀ code gm nt hint, compH P dyn gm nt code hint = some body → nt ≤ 65536 → ∀ φ w a Fn, TR φ gm nt (fun p => S.F.get p) a.tmps → DR φ none [] a.defers → Fc φ none Fn → HR P dyn φ (fun p => S.h.get p) w → New φ S.k E.k →
    code.roundsIn Fn 0 P (CPost P dyn φ none gm nt S.h w S.k x E.F [] E.h E.k) m a w
theorem rest_last {s : Sf} (hs : SfAll P dyn s) {body : CC} {S : S3} {x : X} {E : S3} (he : atS x E (s.ex (.lo body) none S.F [] S.h S.k) = true) : Rest P dyn body S x E := by
  obtain ⟨F, h, hr, h1, h2⟩ := atS_inv he
  obtain ⟨m, hm⟩ := hs.lo _ _ _ _ _ _ _ _ _ _ _ hr
  refine ⟨hs.mono.ex _ _ _ _ _ _ _ _ _ _ _ hr, m, fun code gm nt hint hc hnt φ w a Fn hT hD hF hh hn => ?_⟩
  exact rounds_mono (fun e a w hp => hp.less h1 h2) m a w (hm code gm nt hint hc hnt φ w a Fn hT hD hF hh hn)
theorem rest_step {s : Sf} (hs : SfAll P dyn s) {body : CC} {S S' : S3} {x : X} {E : S3} (m0 : Nat) (he : atS .nrm S' (rnds s.ex body m0 S.F S.h S.k) = true) (hr : Rest P dyn body S' x E) : Rest P dyn body S x E := by
  obtain ⟨F, h, hr0, h1, h2⟩ := atS_inv he
  obtain ⟨_, _, l1, hA⟩ := rnds_ok hs body m0 _ _ _ _ _ _ _ _ hr0
  obtain ⟨l2, m, hm⟩ := hr
  refine ⟨Nat.le_trans l1 l2, m0 + m, fun code gm nt hint hc hnt φ w a Fn hT hD hF hh hn => ?_⟩
  refine hA m code gm nt hint hc hnt φ w a Fn _ hT hD hF hh (hn.left l2) (fun φ1 a1 w1 hT1 hD1 hA1 => ?_)
  have hle := hA1.le (hn.left l2)
  have hA1' := hA1.less h2
  refine rounds_mono (fun e a w hp => hp.trans l1 l2 hA1') m a1 w1 (hm code gm nt hint hc hnt φ1 w1 a1 Fn (hT1.less h1) hD1 (hF.mono hle) hA1'.hr (hn.right l1 hA1.gr))

/-! ### A code in whose inside another run is put -/
def ExFacts (P : Program) (dyn : List TypeId) (c : CC) (F : TT AV) (D : List AD) (h : TT AO) (k : Pos) (x : X) (F1 : TT AV) (D1 : List AD) (h1 : TT AO) (k1 : Pos) : Prop :=
  k.num ≤ k1.num ∧ ∀ code gm nt hint, compH P dyn gm nt code hint = some c → nt ≤ 65536 → ∀ φ w a Fn, TR φ gm nt (fun p => F.get p) a.tmps → DR φ none D a.defers → Fc φ none Fn → HR P dyn φ (fun p => h.get p) w → New φ k k1 →
    code.wpIn Fn 0 P (CPost P dyn φ none gm nt h w k x F1 D1 h1 k1) a w
theorem hkS_ok {body : CC} {S : S3} {x : X} {E : S3} (hr : Rest P dyn body S x E) {F : TT AV} {D : List AD} {h : TT AO} {k : Pos} {y : X} {F1 : TT AV} {D1 : List AD} {h1 : TT AO} {k1 : Pos} (he : hkS S x E F D h k = .go y F1 D1 h1 k1) :
    ExFacts P dyn (.lo body) F D h k y F1 D1 h1 k1 := by
  unfold hkS at he
  rcases cond_eq_true he with ⟨hc, he⟩ | ⟨_, he⟩
  · cases he
    simp only [Bool.and_eq_true] at hc
    obtain ⟨hD0, hin⟩ := hc
    have hD0 : D = [] := by cases D with | nil => rfl | cons _ _ => cases hD0
    subst hD0
    obtain ⟨rfl, h2, h3⟩ := inS_inv hin
    obtain ⟨l1, m, hm⟩ := hr
    refine ⟨l1, fun code gm nt hint hc hnt φ w a Fn hT hD hF hh hn => ?_⟩
    have hlo : ∀ (code : Code) (hint : CC), compH P dyn gm nt code hint = some (.lo body) → ∀ {Q : Exit → Act → World → Prop}, (∀ code hint, compH P dyn gm nt code hint = some body → ∃ m, code.roundsIn Fn 0 P Q m a w) → code.wpIn Fn 0 P Q a w := by
      intro code
      induction code with
      | loop x ih =>
        intro hint hc Q hQ
        simp only [compH] at hc
        split at hc
        · cases hc
        · obtain ⟨cx, hcx, hce⟩ := Option.map_eq_some_iff.1 hc
          cases hce
          obtain ⟨m, hm⟩ := hQ x _ hcx
          exact wpIn_loop_rounds m hm
        · cases hc
      | seq x y ihx ihy =>
        intro hint hc Q hQ
        rcases orNo_inv hc with h0 | hc
        · cases h0
        · rcases cond_eq_true hc with ⟨hsk, hc⟩ | ⟨_, hc⟩
          · exact wpIn_seq (isSk_wp x hsk (ihy _ hc hQ))
          · rcases cond_eq_true hc with ⟨hsk, hc⟩ | ⟨_, hc⟩
            · refine wpIn_seq (ihx _ hc (fun code hint hc' => ?_))
              obtain ⟨m, hm⟩ := hQ code hint hc'
              refine ⟨m, rounds_mono (fun e a' w' hp => ?_) m a w hm⟩
              cases e with
              | normal => exact isSk_wp y hsk hp
              | _ => exact hp
            · split at hc
              · split at hc <;> cases hc
              · cases hc
      | skip => intro hint hc; rcases orNo_inv hc with h0 | h0 <;> cases h0
      | label l => intro hint hc; rcases orNo_inv hc with h0 | h0 <;> cases h0
      | exit l => intro hint hc; rcases orNo_inv hc with h0 | h0 <;> cases h0
      | ret => intro hint hc; rcases orNo_inv hc with h0 | h0 <;> cases h0
      | goto l => intro hint hc; rcases orNo_inv hc with h0 | h0 <;> cases h0
      | refuse l => intro hint hc; rcases orNo_inv hc with h0 | h0 <;> cases h0
      | region id ops d =>
        intro hint hc
        rcases orNo_inv hc with h0 | hc
        · cases h0
        · cases d with
          | true =>
            simp only [cond_true] at hc
            obtain ⟨_, _, h0⟩ := compDraw_inv hc
            cases h0
          | false =>
            simp only [cond_false] at hc
            obtain ⟨_, _, h0⟩ := Option.map_eq_some_iff.1 hc
            cases h0
      | cond o x y _ _ =>
        intro hint hc
        simp only [compH] at hc
        split at hc
        · cases hc
        · split at hc <;> cases hc
        · cases hc
      | block id x _ =>
        intro hint hc
        simp only [compH] at hc
        split at hc
        · cases hc
        · obtain ⟨_, _, h0⟩ := Option.map_eq_some_iff.1 hc
          cases h0
        · cases hc
      | scope x _ =>
        intro hint hc
        simp only [compH] at hc
        split at hc
        · cases hc
        · obtain ⟨_, _, h0⟩ := Option.map_eq_some_iff.1 hc
          cases h0
        · cases hc
      | rangeFunc f ps x y _ _ =>
        intro hint hc
        simp only [compH] at hc
        split at hc
        · cases hc
        · split at hc
          · rcases cond_eq_true hc with ⟨_, hc⟩ | ⟨_, hc⟩ <;> cases hc
          · cases hc
        · cases hc
    refine wpIn_mono (hlo code hint hc (fun code hint hc' => ⟨m, hm code gm nt hint hc' hnt φ w a Fn (hT.less h2) hD hF (hh.less h3) hn⟩)) ?_
    rintro e a1 w1 ⟨e1, φ1, e2, e3, e4⟩
    exact ⟨e1, φ1, e2, e3, e4.from h3⟩
  · cases he
end
end Go.Ev
namespace Go.Ev
open Go

section
variable {P : Program} {dyn : List TypeId}

/-- a code, up to what does nothing. -/
def Lead (c c' : Code) : Prop := ∀ (F : Fence) (n : Nat) (P : Program) (Q : Exit → Act → World → Prop) (a : Act) (w : World), c.wpIn F n P Q a w → c'.wpIn F n P Q a w
theorem lead_l {x y : Code} (h : isSk x = true) : Lead y (.seq x y) := fun _ _ _ _ _ _ hw => wpIn_seq (isSk_wp x h hw)
theorem lead_r {x y : Code} (h : isSk y = true) : Lead x (.seq x y) := fun _ _ _ _ _ _ hw => wpIn_seq (wpIn_mono hw (fun e a w hp => by
  cases e with
  | normal => exact isSk_wp y h hp
  | _ => exact hp))
theorem Lead.trans {a b c : Code} (h : Lead a b) (h' : Lead b c) : Lead a c := fun F n P Q s w hw => h' F n P Q s w (h F n P Q s w hw)
theorem Lead.refl (c : Code) : Lead c c := fun _ _ _ _ _ _ h => h

/-- what a compiled code comes of. -/
def From (P : Program) (dyn : List TypeId) (gm nt : Nat) (code : Code) : CC → Prop
  | .sq a b => ∃ x y hx hy, compH P dyn gm nt x hx = some a ∧ compH P dyn gm nt y hy = some b ∧ Lead (.seq x y) code
  | .bk id a => ∃ x hx, compH P dyn gm nt x hx = some a ∧ Lead (.block id x) code
  | .sc a => ∃ x hx, compH P dyn gm nt x hx = some a ∧ Lead (.scope x) code
  | _ => True
theorem From.lead {gm nt : Nat} {x y : Code} {c : CC} (h : From P dyn gm nt x c) (hl : Lead x y) : From P dyn gm nt y c := by
  cases c with
  | sq a b => obtain ⟨u, v, hu, hv, h1, h2, h3⟩ := h; exact ⟨u, v, hu, hv, h1, h2, h3.trans hl⟩
  | bk id a => obtain ⟨u, hu, h1, h3⟩ := h; exact ⟨u, hu, h1, h3.trans hl⟩
  | sc a => obtain ⟨u, hu, h1, h3⟩ := h; exact ⟨u, hu, h1, h3.trans hl⟩
  | _ => trivial
theorem compH_from {gm nt : Nat} : ∀ (code : Code) (hint c : CC), compH P dyn gm nt code hint = some c → From P dyn gm nt code c := by
  intro code
  induction code with
  | skip => intro hint c hc; rcases orNo_inv hc with rfl | hc <;> first | trivial | (cases hc; trivial)
  | label l => intro hint c hc; rcases orNo_inv hc with rfl | hc <;> first | trivial | (cases hc; trivial)
  | exit l => intro hint c hc; rcases orNo_inv hc with rfl | hc <;> first | trivial | (cases hc; trivial)
  | ret => intro hint c hc; rcases orNo_inv hc with rfl | hc <;> first | trivial | (cases hc; trivial)
  | goto l => intro hint c hc; rcases orNo_inv hc with rfl | hc <;> first | trivial | (cases hc; trivial)
  | refuse l => intro hint c hc; rcases orNo_inv hc with rfl | hc <;> first | trivial | (cases hc; trivial)
  | region id ops d =>
    intro hint c hc
    rcases orNo_inv hc with rfl | hc
    · trivial
    · cases d with
      | true =>
        simp only [cond_true] at hc
        obtain ⟨_, _, rfl⟩ := compDraw_inv hc
        trivial
      | false =>
        simp only [cond_false] at hc
        obtain ⟨_, _, rfl⟩ := Option.map_eq_some_iff.1 hc
        trivial
  | seq x y ihx ihy =>
    intro hint c hc
    rcases orNo_inv hc with rfl | hc
    · trivial
    · rcases cond_eq_true hc with ⟨hsk, hc⟩ | ⟨_, hc⟩
      · exact (ihy _ _ hc).lead (lead_l hsk)
      · rcases cond_eq_true hc with ⟨hsk, hc⟩ | ⟨_, hc⟩
        · exact (ihx _ _ hc).lead (lead_r hsk)
        · split at hc
          · split at hc
            · rename_i cx cy hcx hcy
              cases hc
              exact ⟨x, y, _, _, hcx, hcy, Lead.refl _⟩
            · cases hc
          · cases hc
  | cond o x y _ _ =>
    intro hint c hc
    simp only [compH] at hc
    split at hc
    · cases hc; trivial
    · split at hc
      · cases hc; trivial
      · cases hc
    · cases hc
  | block id x _ =>
    intro hint c hc
    simp only [compH] at hc
    split at hc
    · cases hc; trivial
    · obtain ⟨cx, hcx, rfl⟩ := Option.map_eq_some_iff.1 hc
      exact ⟨x, _, hcx, Lead.refl _⟩
    · cases hc
  | loop x _ =>
    intro hint c hc
    simp only [compH] at hc
    split at hc
    · cases hc; trivial
    · obtain ⟨cx, hcx, rfl⟩ := Option.map_eq_some_iff.1 hc
      trivial
    · cases hc
  | scope x _ =>
    intro hint c hc
    simp only [compH] at hc
    split at hc
    · cases hc; trivial
    · obtain ⟨cx, hcx, rfl⟩ := Option.map_eq_some_iff.1 hc
      exact ⟨x, _, hcx, Lead.refl _⟩
    · cases hc
  | rangeFunc f ps x y _ _ =>
    intro hint c hc
    simp only [compH] at hc
    split at hc
    · cases hc; trivial
    · split at hc
      · rcases cond_eq_true hc with ⟨_, hc⟩ | ⟨_, hc⟩
        · cases hc; trivial
        · cases hc
      · cases hc
    · cases hc

theorem ExFacts.of {s : Sf} (hs : SfAll P dyn s) {c : CC} {F : TT AV} {D : List AD} {h : TT AO} {k : Pos} {x : X} {F1 : TT AV} {D1 : List AD} {h1 : TT AO} {k1 : Pos} (he : s.ex c none F D h k = .go x F1 D1 h1 k1) : ExFacts P dyn c F D h k x F1 D1 h1 k1 := by
  obtain ⟨l1, hA⟩ := hs.ok.ex _ _ _ _ _ _ _ _ _ _ _ he
  exact ⟨l1, hA⟩
/-- a sequence. -/
theorem ExFacts.sq {a b : CC} {F : TT AV} {D : List AD} {h : TT AO} {k : Pos} {x : X} {F1 F2 : TT AV} {D1 D2 : List AD} {h1 h2 : TT AO} {k1 k2 : Pos} (h0 : ExFacts P dyn a F D h k .nrm F1 D1 h1 k1) (h3 : ExFacts P dyn b F1 D1 h1 k1 x F2 D2 h2 k2) :
    ExFacts P dyn (.sq a b) F D h k x F2 D2 h2 k2 := by
  obtain ⟨l1, hA⟩ := h0
  obtain ⟨l2, hB⟩ := h3
  refine ⟨Nat.le_trans l1 l2, fun code gm nt hint hc hnt φ w ac Fn hT hD hF hh hn => ?_⟩
  obtain ⟨u, v, hu, hv, c1, c2, hl⟩ := compH_from code hint _ hc
  refine hl _ _ _ _ _ _ (wpIn_seq (wpIn_mono (hA u gm nt _ c1 hnt φ w ac Fn hT hD hF hh (hn.left l2)) ?_))
  rintro e' a2 w2 ⟨rfl, φ2, hT2, hD2, hA2⟩
  exact wpIn_mono (hB v gm nt _ c2 hnt φ2 w2 a2 Fn hT2 hD2 (hF.mono (hA2.le (hn.left l2))) hA2.hr (hn.right l1 hA2.gr)) (fun e a w hp => hp.trans l1 l2 hA2)
theorem ExFacts.sq_out {a b : CC} {F : TT AV} {D : List AD} {h : TT AO} {k : Pos} {x : X} {F1 : TT AV} {D1 : List AD} {h1 : TT AO} {k1 : Pos} (h0 : ExFacts P dyn a F D h k x F1 D1 h1 k1) (hx : x ≠ .nrm) :
    ExFacts P dyn (.sq a b) F D h k x F1 D1 h1 k1 := by
  obtain ⟨l1, hA⟩ := h0
  refine ⟨l1, fun code gm nt hint hc hnt φ w ac Fn hT hD hF hh hn => ?_⟩
  obtain ⟨u, v, hu, hv, c1, c2, hl⟩ := compH_from code hint _ hc
  refine hl _ _ _ _ _ _ (wpIn_seq (wpIn_mono (hA u gm nt _ c1 hnt φ w ac Fn hT hD hF hh hn) ?_))
  rintro e' a2 w2 hp
  have hp' := hp
  obtain ⟨rfl, _⟩ := hp
  cases x with
  | nrm => exact (hx rfl).elim
  | ret => exact hp'
  | ext id => exact hp'
theorem ExFacts.bk {id : Nat} {a : CC} {F : TT AV} {D : List AD} {h : TT AO} {k : Pos} {x : X} {F1 : TT AV} {D1 : List AD} {h1 : TT AO} {k1 : Pos} (h0 : ExFacts P dyn a F D h k x F1 D1 h1 k1) :
    ExFacts P dyn (.bk id a) F D h k (match x with | .ext j => cond (Nat.beq j id) .nrm (.ext j) | x => x) F1 D1 h1 k1 := by
  obtain ⟨l1, hA⟩ := h0
  refine ⟨l1, fun code gm nt hint hc hnt φ w ac Fn hT hD hF hh hn => ?_⟩
  obtain ⟨u, hu, c1, hl⟩ := compH_from code hint _ hc
  refine hl _ _ _ _ _ _ (wpIn_block (wpIn_mono (hA u gm nt _ c1 hnt φ w ac Fn hT hD hF hh hn) ?_))
  rintro e' a2 w2 hp
  have hp' := hp
  obtain ⟨rfl, φ2, hT2, hD2, hA2⟩ := hp
  cases x with
  | nrm => exact hp'
  | ret => exact hp'
  | ext j =>
    simp only [exitOf, Exit.inBlock]
    rw [beq_iff]
    by_cases hj : j = id
    · subst hj
      simp only [decide_true, cond_true, if_true]
      exact ⟨rfl, φ2, hT2, hD2, hA2⟩
    · simp only [hj, decide_false, cond_false, if_false]
      exact ⟨rfl, φ2, hT2, hD2, hA2⟩
theorem ExFacts.sc {a : CC} {F : TT AV} {D : List AD} {h : TT AO} {k : Pos} {x : X} {F1 : TT AV} {D1 : List AD} {h1 : TT AO} {k1 : Pos} (h0 : ExFacts P dyn a F D h k x F1 D1 h1 k1) : ExFacts P dyn (.sc a) F D h k x F1 D1 h1 k1 := by
  obtain ⟨l1, hA⟩ := h0
  refine ⟨l1, fun code gm nt hint hc hnt φ w ac Fn hT hD hF hh hn => ?_⟩
  obtain ⟨u, hu, c1, hl⟩ := compH_from code hint _ hc
  refine hl _ _ _ _ _ _ (wpIn_scope (wpIn_mono (hA u gm nt _ c1 hnt φ w ac Fn hT hD hF hh hn) ?_))
  rintro e' a2 w2 hp
  refine ⟨fun l => ?_, hp⟩
  rw [hp.1]
  exact exitOf_goto _ l

def HkOk (P : Program) (dyn : List TypeId) (c : CC) (hk : TT AV → List AD → TT AO → Pos → R) : Prop :=
  ∀ F D h k x F1 D1 h1 k1, hk F D h k = .go x F1 D1 h1 k1 → ExFacts P dyn c F D h k x F1 D1 h1 k1
theorem stP_ok {s : Sf} (hs : SfAll P dyn s) {b : CC} {hk : TT AV → List AD → TT AO → Pos → R} (hb : HkOk P dyn b hk) : ∀ (p : List Dir) (c : CC), ccAt p c = some b →
    ∀ F D h k x F1 D1 h1 k1, stP s hk p c F D h k = .go x F1 D1 h1 k1 → ExFacts P dyn c F D h k x F1 D1 h1 k1
  | [], c, hc, F, D, h, k, x, F1, D1, h1, k1, he => by
    cases hc
    exact hb _ _ _ _ _ _ _ _ _ he
  | d :: p, c, hc, F, D, h, k, x, F1, D1, h1, k1, he => by
    cases d with
    | l =>
      cases c with
      | sq u v =>
        have hc : ccAt p u = some b := hc
        change (match stP s hk p u F D h k with | R.go .nrm F D h k => s.ex v none F D h k | r => r) = _ at he
        split at he
        · rename_i hu
          exact (stP_ok hs hb p u hc _ _ _ _ _ _ _ _ _ hu).sq (ExFacts.of hs he)
        · rename_i hne
          exact (stP_ok hs hb p u hc _ _ _ _ _ _ _ _ _ he).sq_out (fun e => by subst e; exact hne _ _ _ _ he)
      | _ => cases hc
    | r =>
      cases c with
      | sq u v =>
        have hc : ccAt p v = some b := hc
        change (match s.ex u none F D h k with | R.go .nrm F D h k => stP s hk p v F D h k | r => r) = _ at he
        split at he
        · rename_i hu
          exact (ExFacts.of hs hu).sq (stP_ok hs hb p v hc _ _ _ _ _ _ _ _ _ he)
        · rename_i hne
          exact (ExFacts.of hs he).sq_out (fun e => by subst e; exact hne _ _ _ _ he)
      | _ => cases hc
    | k =>
      cases c with
      | bk id u =>
        have hc : ccAt p u = some b := hc
        change (match stP s hk p u F D h k with | R.go (.ext j) F D h k => cond (Nat.beq j id) (R.go .nrm F D h k) (R.go (.ext j) F D h k) | r => r) = _ at he
        split at he
        · rename_i j F2 D2 h2 k2 hu
          have h0 := (stP_ok hs hb p u hc _ _ _ _ _ _ _ _ _ hu).bk (id := id)
          simp only at h0
          cases hj : Nat.beq j id with
          | true =>
            rw [hj] at he h0
            cases he
            exact h0
          | false =>
            rw [hj] at he h0
            cases he
            exact h0
        · rename_i hne
          have h0 := (stP_ok hs hb p u hc _ _ _ _ _ _ _ _ _ he).bk (id := id)
          cases x with
          | nrm => exact h0
          | ret => exact h0
          | ext j => exact (hne _ _ _ _ _ he).elim
      | _ => cases hc
    | s =>
      cases c with
      | sc u =>
        have hc : ccAt p u = some b := hc
        exact (stP_ok hs hb p u hc _ _ _ _ _ _ _ _ _ (show stP s hk p u F D h k = _ from he)).sc
      | _ => cases hc

/-! ### A function -/
theorem fnR_ok {T : TT CFn} {quiet : Pos → Bool} (hT : TblOk P dyn T) (hq : QuietOk P quiet) {ex : CC → TT AV → List AD → TT AO → Pos → R} {f : Pos} (hex : ∀ c, T.get f = some c → HkOk P dyn c.bd (ex c.bd)) {l : List AV} {h : TT AO} {k : Pos} {v : AV} {h1 : TT AO} {k1 : Pos}
    (he : fnR T quiet ex f l h k = .go v h1 k1) : k.num ≤ k1.num ∧ (∀ args w, (callFunc (f.num - 1) args).run P w = .ok (.enter (f.num - 1) args) w) ∧
      ∀ φ w (args : Array Value), VRs φ l args.toList → HR P dyn φ (fun p => h.get p) w → New φ k k1 → CallsIn Fence.wide 0 P (f.num - 1) args w (RetTo P dyn φ h w k v h1 k1) := by
  unfold fnR at he
  split at he
  rotate_left
  · cases he
  rename_i c hc
  have hex := hex c hc
  obtain ⟨fn, hint, hfn, hcf⟩ := hT f c hc
  unfold compF at hcf
  split at hcf
  rotate_left
  · cases hcf
  rename_i body rs hbody hrs
  split at hcf
  rotate_left
  · cases hcf
  rename_i b hb
  rcases cond_eq_true hcf with ⟨hcond, hcf⟩ | ⟨_, hcf⟩
  rotate_left
  · cases hcf
  cases hcf
  simp only [Bool.and_eq_true, Bool.not_eq_true'] at hcond
  obtain ⟨⟨⟨hnt, hname⟩, hpn⟩, hkept⟩ := hcond
  rw [ble_iff] at hnt hpn
  have hnt : fn.ntmps ≤ 65536 := by simpa using hnt
  have hpn : fn.params.size + fn.nfree ≤ fn.ntmps := by simpa using hpn
  split at he
  rotate_left
  · cases he
  rename_i F hset
  have hle : k.num ≤ k1.num := by
    split at he
    · rename_i hx
      have := (hex _ _ _ _ _ _ _ _ _ hx).1
      rw [lv_mono he]
      exact this
    · rename_i hx
      have := (hex _ _ _ _ _ _ _ _ _ hx).1
      rw [lv_mono he]
      exact this
    · cases he
    · cases he
  refine ⟨hle, fun args w => by have h1 : fn.name ≠ "runtime.NumGoroutine" := (by simpa using hname); simp [callFunc, hfn, h1, hbody], fun φ w args hl hh hn => ?_⟩
  refine callsIn_of_wp_marks hfn hbody trivial ?_
  have hall : (List.range (fn.params.size + fn.nfree)).all (fun t => kept hint.gm t && Nat.blt t fn.ntmps) = true := by
    rw [List.all_eq_true] at hkept ⊢
    intro t ht
    have h2 := hkept t ht
    rw [h2, Bool.true_and, blt_iff]
    have := List.mem_range.1 ht
    simp; omega
  have hsl : args.size = fn.params.size + fn.nfree := by
    have key : ∀ (ts : List Pos) (l : List AV) (F0 F1 : TT AV), setAll ts l F0 = some F1 → ts.length = l.length := by
      intro ts
      induction ts with
      | nil => intro l F0 F1 h; cases l with | nil => rfl | cons _ _ => cases h
      | cons t ts ih =>
        intro l F0 F1 h
        cases l with
        | nil => cases h
        | cons x l =>
          change setAll ts l (F0.put t (some x)) = some F1 at h
          simp [ih l _ _ h]
    have h1 := key _ _ _ _ hset
    have h2 := hl.length
    simp at h1 h2
    omega
  have hT0 : TR φ hint.gm fn.ntmps (fun p => (TT.e : TT AV).get p) (args ++ Array.replicate (fn.ntmps - args.size) undef) :=
    ⟨by simp; omega, fun t v _ h => by simp only [get_e] at h; cases h⟩
  obtain ⟨hT1, _⟩ := setAll_run hnt hT0 hall hset hl
  rw [fold_own] at hT1
  rotate_left
  · rintro ⟨t, v⟩ hp
    obtain ⟨i, hi⟩ := List.mem_iff_getElem?.1 hp
    rw [List.getElem?_zip_eq_some] at hi
    obtain ⟨hi1, hi2⟩ := hi
    have hlt := (List.getElem?_eq_some_iff.1 hi1).1
    have hti := (List.getElem?_eq_some_iff.1 hi1).2
    simp at hlt hti
    subst hti
    have hlt2 : i < args.size := by omega
    simp only
    rw [Array.getElem?_append, if_pos hlt2]
    simpa using hi2
  have body_ok : ∀ (x : X) (F1 : TT AV) (D1 : List AD) (h2 : TT AO) (k2 : Pos), ex b F [] h k = .go x F1 D1 h2 k2 → (x = .nrm ∨ x = .ret) → lv quiet F1 rs k2 D1 h2 = .go v h1 k1 →
      body.wpIn Fence.wide 0 P (bodyPostM Fence.wide 0 P fn (RetTo P dyn φ h w k v h1 k1)) { tmps := args ++ Array.replicate (fn.ntmps - args.size) undef, defers := [] } w := by
    intro x F1 D1 h2 k2 hx0 hx hlv
    obtain ⟨l1, hA⟩ := hex _ _ _ _ _ _ _ _ _ hx0
    have hk : k1 = k2 := lv_mono hlv
    subst hk
    refine wpIn_mono (hA body hint.gm fn.ntmps hint.bd hb hnt φ w _ Fence.wide hT1 DRs.nil rfl hh hn) ?_
    rintro e a2 w2 ⟨rfl, φ2, hT2, hD2, hA2⟩
    have := lv_run hq hrs D1 h2 hlv φ2 a2.tmps a2.defers w2 (RetTo P dyn φ h w k v h1 k1) hT2 hD2 hA2.hr (fun v' w3 hv hA3 => ⟨v', φ2, rfl, hv, Aft.trans l1 (Nat.le_refl _) hA2 hA3⟩)
    rcases hx with rfl | rfl <;> exact this
  split at he
  · rename_i hx; exact body_ok _ _ _ _ _ hx (.inl rfl) he
  · rename_i hx; exact body_ok _ _ _ _ _ hx (.inr rfl) he
  · cases he
  · cases he

/-! ### Calls that give a value and leave all as it is -/
structure Closed (P : Program) (f : Pos) (v : AV) : Prop where
  en : ∀ args w, (callFunc (f.num - 1) args).run P w = .ok (.enter (f.num - 1) args) w
  ca : ∀ w, CallsIn Fence.wide 0 P (f.num - 1) #[] w (fun e w1 => ∃ v', e = .returned v' ∧ VR (fun _ => none) v v' ∧ w.heap.size ≤ w1.heap.size ∧ w1.os = w.os ∧ w1.output = w.output ∧ w1.tape = w.tape ∧ ∀ b, b < w.heap.size → w1.heap[b]? = w.heap[b]?)
theorem closed_of {f : Pos} {v : AV} {h1 : TT AO} {k1 : Pos} (hb : ∃ b, v = .b b) (he : (∀ args w, (callFunc (f.num - 1) args).run P w = .ok (.enter (f.num - 1) args) w) ∧
      ∀ φ w (args : Array Value), VRs φ [] args.toList → HR P dyn φ (fun p => (TT.e : TT AO).get p) w → New φ .h k1 → CallsIn Fence.wide 0 P (f.num - 1) args w (RetTo P dyn φ .e w .h v h1 k1)) : Closed P f v := by
  refine ⟨he.1, fun w => ?_⟩
  refine CallsIn.mono (he.2 (fun _ => none) w #[] .nil ⟨fun n o h => (by simp only [get_e] at h; cases h), fun n m o o' L L' h => (by simp only [get_e] at h; cases h)⟩ (fun _ _ _ => rfl)) ?_
  rintro e w1 ⟨v', φ1, rfl, hv, hA⟩
  obtain ⟨b, rfl⟩ := hb
  cases hv
  refine ⟨_, rfl, .b b, hA.ex.sz, hA.ex.os, hA.ex.out, hA.ex.tape, fun x hx => hA.ex.fr x hx (fun hi => ?_)⟩
  obtain ⟨n, o, L, h0, _⟩ := hi
  simp only [get_e] at h0
  cases h0
theorem handV_ok {HL : TT AV} (hc : ∀ f v, HL.get f = some v → Closed P f v) : HandOk P dyn (handV HL) := by
  have inv : ∀ {f l h k v h1 k1}, handV HL f l h k = some (.go v h1 k1) → HL.get f = some v ∧ l = [] ∧ h1 = h ∧ k1 = k := by
    intro f l h k v h1 k1 he
    unfold handV at he
    split at he
    · rename_i u hu
      split at he
      · cases he
        exact ⟨hu, rfl, rfl, rfl⟩
      · cases he
    · cases he
  constructor
  · intro f l h k v h1 k1 he
    obtain ⟨hu, rfl, rfl, rfl⟩ := inv he
    have h0 := hc f v hu
    refine ⟨Nat.le_refl _, h0.en, fun φ w args ha hh hn => ?_⟩
    have hargs : args = #[] := by
      apply Array.ext'
      generalize args.toList = l at ha
      cases ha
      rfl
    subst hargs
    refine CallsIn.mono (h0.ca w) ?_
    rintro e w1 ⟨v', rfl, hv, e1, e2, e3, e4, e5⟩
    refine ⟨v', φ, rfl, hv.mono (fun n L h => by cases h), Grown.refl _ _, hh.heap_eq (fun n o L hn hL => ?_), ⟨e1, e2, e3, e4, fun b hb _ => e5 b hb, fun b _ h => h⟩⟩
    obtain ⟨L', ob, a1, a2, _⟩ := hh.blk n o hn
    rw [hL] at a1
    cases a1
    exact e5 _ (Array.getElem?_eq_some_iff.1 a2).1
  · intro f l h k v h1 k1 he
    obtain ⟨hu, rfl, rfl, rfl⟩ := inv he
    exact Rl.refl _ _
theorem hand_none : HandOk P dyn (handV .e) := handV_ok (fun f v h => by rw [get_e] at h; cases h)
end
end Go.Ev
