/- Each function is what the evaluator takes it for; part 1. No condition. -/
import Derived.Test.YtmcigdddcknmmaaGreatProg
import Derived.KernelRfl
import Derived.Test.YtmcigdddcknmmaaGreatPg2
namespace Go.Proofs.YtmcigdddcknmmaaGreat
open Go Go.Ev
set_option maxRecDepth 10000000 in
theorem k7 : compF Tryz.prog dyn Tryz.f6 c7 = some c7 := by kernel_rfl
set_option maxRecDepth 10000000 in
theorem k12 : compF Tryz.prog dyn Tryz.f11 c12 = some c12 := by kernel_rfl
set_option maxRecDepth 10000000 in
theorem k13 : compF Tryz.prog dyn Tryz.f12 c13 = some c13 := by kernel_rfl
set_option maxRecDepth 10000000 in
theorem k14 : compF Tryz.prog dyn Tryz.f13 c14 = some c14 := by kernel_rfl
set_option maxRecDepth 10000000 in
theorem k19 : compF Tryz.prog dyn Tryz.f18 c19 = some c19 := by kernel_rfl
set_option maxRecDepth 10000000 in
theorem k22 : compF Tryz.prog dyn Tryz.f21 c22 = some c22 := by kernel_rfl
set_option maxRecDepth 10000000 in
theorem k29 : compF Tryz.prog dyn Tryz.f28 c29 = some c29 := by kernel_rfl
set_option maxRecDepth 10000000 in
theorem k37 : compF Tryz.prog dyn Tryz.f36 c37 = some c37 := by kernel_rfl
set_option maxRecDepth 10000000 in
theorem k46 : compF Tryz.prog dyn Tryz.f45 c46 = some c46 := by kernel_rfl
set_option maxRecDepth 10000000 in
theorem k64 : compF Tryz.prog dyn Tryz.f63 c64 = some c64 := by kernel_rfl
set_option maxRecDepth 10000000 in
theorem k65 : compF Tryz.prog dyn Tryz.f64 c65 = some c65 := by kernel_rfl
set_option maxRecDepth 10000000 in
theorem k67 : compF Tryz.prog dyn Tryz.f66 c67 = some c67 := by kernel_rfl
set_option maxRecDepth 10000000 in
theorem k75 : compF Tryz.prog dyn Tryz.f74 c75 = some c75 := by kernel_rfl
set_option maxRecDepth 10000000 in
theorem k83 : compF Tryz.prog dyn Tryz.f82 c83 = some c83 := by kernel_rfl
set_option maxRecDepth 10000000 in
theorem k88 : compF Tryz.prog dyn Tryz.f87 c88 = some c88 := by kernel_rfl
set_option maxRecDepth 10000000 in
theorem k93 : compF Tryz.prog dyn Tryz.f92 c93 = some c93 := by kernel_rfl
set_option maxRecDepth 10000000 in
theorem k94 : compF Tryz.prog dyn Tryz.f93 c94 = some c94 := by kernel_rfl
set_option maxRecDepth 10000000 in
theorem k105 : compF Tryz.prog dyn Tryz.f104 c105 = some c105 := by kernel_rfl
set_option maxRecDepth 10000000 in
theorem k112 : compF Tryz.prog dyn Tryz.f111 c112 = some c112 := by kernel_rfl
set_option maxRecDepth 10000000 in
theorem k116 : compF Tryz.prog dyn Tryz.f115 c116 = some c116 := by kernel_rfl
set_option maxRecDepth 10000000 in
theorem k120 : compF Tryz.prog dyn Tryz.f119 c120 = some c120 := by kernel_rfl
set_option maxRecDepth 10000000 in
theorem k138 : compF Tryz.prog dyn Tryz.f137 c138 = some c138 := by kernel_rfl
set_option maxRecDepth 10000000 in
theorem k144 : compF Tryz.prog dyn Tryz.f143 c144 = some c144 := by kernel_rfl
set_option maxRecDepth 10000000 in
theorem k146 : compF Tryz.prog dyn Tryz.f145 c146 = some c146 := by kernel_rfl
set_option maxRecDepth 10000000 in
theorem k147 : compF Tryz.prog dyn Tryz.f146 c147 = some c147 := by kernel_rfl
set_option maxRecDepth 10000000 in
theorem k154 : compF Tryz.prog dyn Tryz.f153 c154 = some c154 := by kernel_rfl
set_option maxRecDepth 10000000 in
theorem k190 : compF Tryz.prog dyn Tryz.f189 c190 = some c190 := by kernel_rfl
set_option maxRecDepth 10000000 in
theorem k191 : compF Tryz.prog dyn Tryz.f190 c191 = some c191 := by kernel_rfl
set_option maxRecDepth 10000000 in
theorem k194 : compF Tryz.prog dyn Tryz.f193 c194 = some c194 := by kernel_rfl
set_option maxRecDepth 10000000 in
theorem k205 : compF Tryz.prog dyn Tryz.f204 c205 = some c205 := by kernel_rfl
set_option maxRecDepth 10000000 in
theorem k206 : compF Tryz.prog dyn Tryz.f205 c206 = some c206 := by kernel_rfl
set_option maxRecDepth 10000000 in
theorem k213 : compF Tryz.prog dyn Tryz.f212 c213 = some c213 := by kernel_rfl
set_option maxRecDepth 10000000 in
theorem k222 : compF Tryz.prog dyn Tryz.f221 c222 = some c222 := by kernel_rfl
set_option maxRecDepth 10000000 in
theorem k228 : compF Tryz.prog dyn Tryz.f227 c228 = some c228 := by kernel_rfl
set_option maxRecDepth 10000000 in
theorem k240 : compF Tryz.prog dyn Tryz.f239 c240 = some c240 := by kernel_rfl
set_option maxRecDepth 10000000 in
theorem k259 : compF Tryz.prog dyn Tryz.f258 c259 = some c259 := by kernel_rfl
set_option maxRecDepth 10000000 in
theorem k261 : compF Tryz.prog dyn Tryz.f260 c261 = some c261 := by kernel_rfl
set_option maxRecDepth 10000000 in
theorem k262 : compF Tryz.prog dyn Tryz.f261 c262 = some c262 := by kernel_rfl
set_option maxRecDepth 10000000 in
theorem k267 : compF Tryz.prog dyn Tryz.f266 c267 = some c267 := by kernel_rfl
set_option maxRecDepth 10000000 in
theorem k277 : compF Tryz.prog dyn Tryz.f276 c277 = some c277 := by kernel_rfl
set_option maxRecDepth 10000000 in
theorem k279 : compF Tryz.prog dyn Tryz.f278 c279 = some c279 := by kernel_rfl
set_option maxRecDepth 10000000 in
theorem k294 : compF Tryz.prog dyn Tryz.f293 c294 = some c294 := by kernel_rfl
set_option maxRecDepth 10000000 in
theorem k302 : compF Tryz.prog dyn Tryz.f301 c302 = some c302 := by kernel_rfl
set_option maxRecDepth 10000000 in
theorem k303 : compF Tryz.prog dyn Tryz.f302 c303 = some c303 := by kernel_rfl
set_option maxRecDepth 10000000 in
theorem k314 : compF Tryz.prog dyn Tryz.f313 c314 = some c314 := by kernel_rfl
set_option maxRecDepth 10000000 in
theorem k319 : compF Tryz.prog dyn Tryz.f318 c319 = some c319 := by kernel_rfl
set_option maxRecDepth 10000000 in
theorem k322 : compF Tryz.prog dyn Tryz.f321 c322 = some c322 := by kernel_rfl
set_option maxRecDepth 10000000 in
theorem k324 : compF Tryz.prog dyn Tryz.f323 c324 = some c324 := by kernel_rfl
set_option maxRecDepth 10000000 in
theorem k333 : compF Tryz.prog dyn Tryz.f332 c333 = some c333 := by kernel_rfl
set_option maxRecDepth 10000000 in
theorem k334 : compF Tryz.prog dyn Tryz.f333 c334 = some c334 := by kernel_rfl
set_option maxRecDepth 10000000 in
theorem k356 : compF Tryz.prog dyn Tryz.f355 c356 = some c356 := by kernel_rfl
set_option maxRecDepth 10000000 in
theorem k362 : compF Tryz.prog dyn Tryz.f361 c362 = some c362 := by kernel_rfl
set_option maxRecDepth 10000000 in
theorem k367 : compF Tryz.prog dyn Tryz.f366 c367 = some c367 := by kernel_rfl
set_option maxRecDepth 10000000 in
theorem k379 : compF Tryz.prog dyn Tryz.f378 c379 = some c379 := by kernel_rfl
set_option maxRecDepth 10000000 in
theorem k395 : compF Tryz.prog dyn Tryz.f394 c395 = some c395 := by kernel_rfl
set_option maxRecDepth 10000000 in
theorem k422 : compF Tryz.prog dyn Tryz.f421 c422 = some c422 := by kernel_rfl
set_option maxRecDepth 10000000 in
theorem k440 : compF Tryz.prog dyn Tryz.f439 c440 = some c440 := by kernel_rfl
set_option maxRecDepth 10000000 in
theorem k446 : compF Tryz.prog dyn Tryz.f445 c446 = some c446 := by kernel_rfl
set_option maxRecDepth 10000000 in
theorem k451 : compF Tryz.prog dyn Tryz.f450 c451 = some c451 := by kernel_rfl
set_option maxRecDepth 10000000 in
theorem k452 : compF Tryz.prog dyn Tryz.f451 c452 = some c452 := by kernel_rfl
set_option maxRecDepth 10000000 in
theorem k497 : compF Tryz.prog dyn Tryz.f496 c497 = some c497 := by kernel_rfl
set_option maxRecDepth 10000000 in
theorem k506 : compF Tryz.prog dyn Tryz.f505 c506 = some c506 := by kernel_rfl
set_option maxRecDepth 10000000 in
theorem k512 : compF Tryz.prog dyn Tryz.f511 c512 = some c512 := by kernel_rfl
set_option maxRecDepth 10000000 in
theorem k536 : compF Tryz.prog dyn Tryz.f535 c536 = some c536 := by kernel_rfl
set_option maxRecDepth 10000000 in
theorem k537 : compF Tryz.prog dyn Tryz.f536 c537 = some c537 := by kernel_rfl
set_option maxRecDepth 10000000 in
theorem k610 : compF Tryz.prog dyn Tryz.f609 c610 = some c610 := by kernel_rfl
end Go.Proofs.YtmcigdddcknmmaaGreat
