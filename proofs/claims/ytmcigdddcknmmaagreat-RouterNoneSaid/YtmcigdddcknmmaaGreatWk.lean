/- works gives true, whatever memory holds, and leaves it as it is. No condition. -/
import Derived.Test.YtmcigdddcknmmaaGreatTbl
import Derived.Test.YtmcigdddcknmmaaGreatCh1
import Derived.Test.YtmcigdddcknmmaaGreatCh2
import Derived.Test.YtmcigdddcknmmaaGreatCh3
import Derived.RecoverIn
namespace Go.Proofs.YtmcigdddcknmmaaGreat
open Go Go.Ev

theorem follows : Tryz.prog.follows .mixedOrders = true := by kernel_rfl

theorem caught_idle (args : Array Value) (w : World) : CallsDIn Fence.wide 0 Tryz.prog 320 args .returning w fun e u' w' => (∃ v, e = .returned v) ∧ settle u' = .returning ∧ w'.heap = w.heap ∧ w'.os = w.os ∧ w'.output = w.output ∧ w'.tape = w.tape := by
  refine callsDIn_of_wpSIn Tryz.func320 rfl trivial fun c₀ cs hu => ?_
  have hT : 19 ≤ (args ++ Array.replicate (Tryz.f320.ntmps - args.size) undef).size := by
    rw [Tryz.ntmps320]; simp; omega
  generalize args ++ Array.replicate (Tryz.f320.ntmps - args.size) undef = T at hT
  have g5 : 5 < T.size := by omega
  have g2 : 2 < T.size := by omega
  have g6 : 6 < T.size := by omega
  have g7 : 7 < T.size := by omega
  apply wpSIn_seq
  first | apply wpSIn_region | (apply wpSIn_seq; apply wpSIn_region)
  simp [wpOpsSIn, go_sem, recoverD, hu, Exit.thenS, g5]
  refine ⟨fun _ _ => trivial, fun _ _ => trivial, ?_⟩
  apply wpSIn_seq
  apply wpSIn_region
  simp [wpOpsSIn, go_sem, Exit.thenS, g2, g6, Tryz.underlying20]
  refine ⟨fun _ _ => trivial, fun _ _ => trivial, ?_⟩
  refine wpSIn_cond (t := false) (by simp [Act.eval, g7]) ?_
  simp only [Bool.false_eq_true, if_false]
  refine wpSIn_of_wpIn rfl (wpIn_skip ?_)
  cases c₀
  simp_all [bodyPostS, results, Tryz.results320, settle]

theorem quietOk : QuietOk Tryz.prog quiet := by
  intro f hf args w
  have : f = q321 := Pos.same_iff hf
  subst this
  have h1 : (Tryz.f320.name == "runtime.NumGoroutine") = false := by kernel_rfl
  have h2 : Tryz.f320.name ≠ "runtime.NumGoroutine" := by simpa using h1
  have hb : ∃ c, Tryz.f320.body = some c := ⟨_, rfl⟩
  obtain ⟨c, hb⟩ := hb
  refine ⟨?_, caught_idle args w⟩
  show (callFunc 320 args).run Tryz.prog w = .ok (.enter 320 args) w
  simp [callFunc, Tryz.func320, h2, hb]

theorem sAll : SfAll Tryz.prog dyn sW := selfH_ok follows tblOk quietOk hand_none 100000
theorem rest1 : Go.Ev.Rest Tryz.prog dyn wbody Z1 (.ext 0) ZE := rest_step sAll 10 ch1 (rest_step sAll 10 ch2 (rest_step sAll 10 ch3 (rest_last sAll ch4)))
theorem works_closed : Closed Tryz.prog q5 (.b true) := by
  obtain ⟨h, k, he⟩ := isT_inv ch0
  have hg : fns.get q5 = some c5 := by kernel_rfl
  have hp : ccAt wpath c5.bd = some (.lo wbody) := by kernel_rfl
  obtain ⟨_, h1, h2⟩ := fnR_ok (P := Tryz.prog) (dyn := dyn) tblOk quietOk (f := q5) (ex := stP sW (hkS Z1 (.ext 0) ZE) wpath) (fun c hc => by
    rw [hg] at hc
    cases hc
    intro F D h k x F1 D1 h1 k1 he
    exact stP_ok sAll (fun _ _ _ _ _ _ _ _ _ he => hkS_ok rest1 he) wpath c5.bd hp _ _ _ _ _ _ _ _ _ he) he
  exact closed_of ⟨true, rfl⟩ ⟨h1, h2⟩
end Go.Proofs.YtmcigdddcknmmaaGreat
