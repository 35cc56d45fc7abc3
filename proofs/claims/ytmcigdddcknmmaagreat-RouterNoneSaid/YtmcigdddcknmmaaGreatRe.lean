/- What RouterNone calls and what it does behind its first calls, by the evaluator. No condition. -/
import Derived.Test.YtmcigdddcknmmaaGreatWk
import Derived.Below
namespace Go.Proofs.YtmcigdddcknmmaaGreat
open Go Go.Ev Go.RowKit

noncomputable def HL : TT AV := TT.put q5 (some (.b true)) .e
noncomputable def sR : Sf := selfH fns quiet (handV HL) 1000
theorem handR : HandOk Tryz.prog dyn (handV HL) := handV_ok (fun f v h => by
  unfold HL at h
  rw [get_put] at h
  split at h
  · rename_i e
    subst e
    cases h
    exact works_closed
  · rw [get_e] at h; cases h)
theorem sAllR : SfAll Tryz.prog dyn sR := selfH_ok follows tblOk quietOk handR 1000

def zc : List AV := [(.b false), (.i .u32 (.ofNat 0)), (.i .i64 (.ofNat 0)), (.b false), .sz, .sz, .sz, .sz, .sz, .sz, (.i .i64 (.ofNat 0)), (.b false), (.i .i64 (.ofNat 0)), .sz, .sz, .pz, (.b false), .sz, (.i .i64 (.ofNat 0)), .sz, .sz, .sz, (.i .i64 (.ofNat 0)), (.i .i64 (.ofNat 0)), (.i .i64 (.ofNat 0)), (.i .i64 (.ofNat 0)), (.i .i64 (.ofNat 0)), (.i .i64 (.ofNat 0)), (.i .i64 (.ofNat 0)), (.i .i64 (.ofNat 0)), .sz, .sz, .sz]
noncomputable def hR : TT AO := TT.put q1 (some (.c zc false)) .e
noncomputable def FR : TT AV := TT.put q11 (some (.i .i64 (.ofNat 1))) (TT.put q9 (some (.i .i64 (.ofNat 1))) (TT.put q7 (some (.p q1 0)) (TT.put q6 (some .pz) (TT.put q1 (some (.oi .i64)) .e))))
def restCC : CC := match ccAt [.r, .r, .r, .r, .r, .r] c4.bd with | some c => c | none => .no
noncomputable def isRet (r : R) : Bool := match r with | .go .ret F [] _ _ => (match F.get q5 with | some (.b b) => b | _ => false) | _ => false
theorem isRet_inv {r : R} (h : isRet r = true) : ∃ F h1 k1, r = .go .ret F [] h1 k1 ∧ F.get q5 = some (.b true) := by
  unfold isRet at h
  split at h
  · rename_i F h1 k1
    split at h
    · rename_i hF; subst h; exact ⟨_, _, _, rfl, hF⟩
    · cases h
  · cases h
set_option maxRecDepth 10000000 in
theorem rest_run : isRet (sR.ex restCC none FR [] hR q3) = true := by kernel_rfl

def takeV : AV := .tu [.ag [.sz, .sz], .i .i64 (.ofNat 1)]
noncomputable def retIs (v : AV) (S : TT AO) (k0 : Pos) (r : RV) : Bool := match r with | .go u h k => same 12 v u && subT sameO S h && k0.same k | .bad _ => false
theorem retIs_inv {v : AV} {S : TT AO} {k0 : Pos} {r : RV} (h : retIs v S k0 r = true) : ∃ h1, r = .go v h1 k0 ∧ ∀ p o, S.get p = some o → h1.get p = some o := by
  cases r with
  | bad w => cases h
  | go u h1 k =>
    simp only [retIs, Bool.and_eq_true] at h
    obtain ⟨⟨a, b⟩, c⟩ := h
    cases same_eq 12 _ _ a
    cases posSame_eq c
    exact ⟨h1, rfl, subT_get (fun _ _ => sameO_eq) b⟩
set_option maxRecDepth 10000000 in
theorem take_nil_run : retIs takeV .e q2 (sR.ca q6 [.pz, .oi .i64, .i .u32 (.ofNat 1), .i .u32 (.ofNat 2), .o1] .e q1) = true := by kernel_rfl
set_option maxRecDepth 10000000 in
theorem take_zero_run : retIs takeV hR q3 (sR.ca q6 [.p q1 0, .oi .i64, .i .u32 (.ofNat 1), .i .u32 (.ofNat 2), .o1] hR q2) = true := by kernel_rfl

theorem below_of_ext {φ φ1 : Phi} {H H1 : Pos → Option AO} {w w1 : World} {B : Nat} (he : Ext φ H w φ1 H1 w1) (hB : B ≤ w.heap.size) (hi : ∀ b, Img φ H b → B ≤ b) : Below B w w1 :=
  ⟨he.os, he.tape, he.out, he.sz, fun k hk => he.fr k (by omega) (fun h => by have := hi k h; omega)⟩

abbrev takeR : Value := .tuple #[.agg #[.slice none 0 0, .slice none 0 0], .int .i64 1]
theorem takeV_inv {φ : Phi} {v : Value} (h : VR φ takeV v) : v = takeR := by
  cases h with
  | tu l vs h =>
    cases h with
    | cons h1 t =>
      cases t with
      | cons h2 t =>
        cases t
        cases h2
        cases h1 with
        | ag l vs h =>
          cases h with
          | cons h1 t => cases t with
            | cons h2 t =>
              cases t
              cases h1
              cases h2
              rfl

theorem take_args {φ : Phi} {x : AV} {v : Value} (hx : VR φ x v) (a0 : Int) (a : Option Addr) (l c : Nat) :
    VRs φ [x, .oi .i64, .i .u32 (.ofNat 1), .i .u32 (.ofNat 2), .o1] (#[v, .int .i64 a0, .int .u32 1, .int .u32 2, .slice a l c] : Array Value).toList :=
  .cons hx (.cons (.oi _ _) (.cons (.i _ _) (.cons (.i _ _) (.cons (.o1 _ rfl (fun _ h => by cases h)) .nil))))

theorem take_nil (w : World) (a0 : Int) (a : Option Addr) (l c : Nat) : CallsIn Fence.wide 0 Tryz.prog 5 #[.pointer none, .int .i64 a0, .int .u32 1, .int .u32 2, .slice a l c] w (fun e w1 => e = .returned takeR ∧ Below w.heap.size w w1) := by
  obtain ⟨h1, he, _⟩ := retIs_inv take_nil_run
  refine CallsIn.mono ((sAllR.ok.ca _ _ _ _ _ _ _ he).2.2 (fun _ => none) w _ (take_args .pz a0 a l c) ⟨fun n o h => (by simp only [get_e] at h; cases h), fun n m o o' L L' h => (by simp only [get_e] at h; cases h)⟩ (fun _ _ _ => rfl)) ?_
  rintro e w1 ⟨v', φ1, rfl, hv, hA⟩
  refine ⟨by rw [takeV_inv hv], below_of_ext hA.ex (Nat.le_refl _) (fun b hb => ?_)⟩
  obtain ⟨n, o, L, h0, _⟩ := hb
  simp only [get_e] at h0
  cases h0

theorem take_zero (w : World) (b : Nat) (φ : Phi) (hφ : φ q1 = some ⟨b, 0, 33⟩) (hn : ∀ n : Pos, q2.num ≤ n.num → φ n = none) (hh : HR Tryz.prog dyn φ (fun p => hR.get p) w) (a0 : Int) (a : Option Addr) (l c : Nat) :
    CallsIn Fence.wide 0 Tryz.prog 5 #[.pointer (some ⟨b, 0, none⟩), .int .i64 a0, .int .u32 1, .int .u32 2, .slice a l c] w (fun e w1 => e = .returned takeR ∧ (∀ B, B ≤ b → B ≤ w.heap.size → Below B w w1) ∧ ∃ φ1 : Phi, φ1 q1 = some ⟨b, 0, 33⟩ ∧ (∀ n : Pos, q3.num ≤ n.num → φ1 n = none) ∧ HR Tryz.prog dyn φ1 (fun p => hR.get p) w1) := by
  obtain ⟨h1, he, hsub⟩ := retIs_inv take_zero_run
  refine CallsIn.mono ((sAllR.ok.ca _ _ _ _ _ _ _ he).2.2 φ w _ (take_args (by simpa using VR.p q1 0 ⟨b, 0, 33⟩ hφ) a0 a l c) hh (fun n h _ => hn n h)) ?_
  rintro e w1 ⟨v', φ1, rfl, hv, hA⟩
  refine ⟨by rw [takeV_inv hv], fun B hB hs => below_of_ext hA.ex hs (fun x hx => ?_), φ1, ?_, fun n hn' => ?_, hA.hr.less hsub⟩
  · obtain ⟨n, o, L, h0, hL, rfl⟩ := hx
    have hn1 : n = q1 := by
      by_cases e : n = q1
      · exact e
      · exfalso
        simp only [hR] at h0
        rw [get_put, if_neg e, get_e] at h0
        cases h0
    subst hn1
    rw [hφ] at hL
    cases hL
    exact hB
  · rw [hA.gr q1 (.inl (by decide))]; exact hφ
  · rw [hA.gr n (.inr hn')]
    exact hn n (Nat.le_trans (by decide) hn')
end Go.Proofs.YtmcigdddcknmmaaGreat
