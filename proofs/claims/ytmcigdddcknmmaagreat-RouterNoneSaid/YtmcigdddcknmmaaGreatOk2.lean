/- Each function is what the evaluator takes it for; part 2. No condition. -/
import Derived.Test.YtmcigdddcknmmaaGreatProg
import Derived.KernelRfl
import Derived.Test.YtmcigdddcknmmaaGreatPg2
namespace Go.Proofs.YtmcigdddcknmmaaGreat
open Go Go.Ev
set_option maxRecDepth 10000000 in
theorem k5 : compF Tryz.prog dyn Tryz.f4 c5 = some c5 := by kernel_rfl
set_option maxRecDepth 10000000 in
theorem k8 : compF Tryz.prog dyn Tryz.f7 c8 = some c8 := by kernel_rfl
set_option maxRecDepth 10000000 in
theorem k9 : compF Tryz.prog dyn Tryz.f8 c9 = some c9 := by kernel_rfl
set_option maxRecDepth 10000000 in
theorem k10 : compF Tryz.prog dyn Tryz.f9 c10 = some c10 := by kernel_rfl
set_option maxRecDepth 10000000 in
theorem k16 : compF Tryz.prog dyn Tryz.f15 c16 = some c16 := by kernel_rfl
set_option maxRecDepth 10000000 in
theorem k18 : compF Tryz.prog dyn Tryz.f17 c18 = some c18 := by kernel_rfl
set_option maxRecDepth 10000000 in
theorem k21 : compF Tryz.prog dyn Tryz.f20 c21 = some c21 := by kernel_rfl
set_option maxRecDepth 10000000 in
theorem k44 : compF Tryz.prog dyn Tryz.f43 c44 = some c44 := by kernel_rfl
set_option maxRecDepth 10000000 in
theorem k45 : compF Tryz.prog dyn Tryz.f44 c45 = some c45 := by kernel_rfl
set_option maxRecDepth 10000000 in
theorem k69 : compF Tryz.prog dyn Tryz.f68 c69 = some c69 := by kernel_rfl
set_option maxRecDepth 10000000 in
theorem k81 : compF Tryz.prog dyn Tryz.f80 c81 = some c81 := by kernel_rfl
set_option maxRecDepth 10000000 in
theorem k82 : compF Tryz.prog dyn Tryz.f81 c82 = some c82 := by kernel_rfl
set_option maxRecDepth 10000000 in
theorem k90 : compF Tryz.prog dyn Tryz.f89 c90 = some c90 := by kernel_rfl
set_option maxRecDepth 10000000 in
theorem k106 : compF Tryz.prog dyn Tryz.f105 c106 = some c106 := by kernel_rfl
set_option maxRecDepth 10000000 in
theorem k124 : compF Tryz.prog dyn Tryz.f123 c124 = some c124 := by kernel_rfl
set_option maxRecDepth 10000000 in
theorem k127 : compF Tryz.prog dyn Tryz.f126 c127 = some c127 := by kernel_rfl
set_option maxRecDepth 10000000 in
theorem k151 : compF Tryz.prog dyn Tryz.f150 c151 = some c151 := by kernel_rfl
set_option maxRecDepth 10000000 in
theorem k153 : compF Tryz.prog dyn Tryz.f152 c153 = some c153 := by kernel_rfl
set_option maxRecDepth 10000000 in
theorem k159 : compF Tryz.prog dyn Tryz.f158 c159 = some c159 := by kernel_rfl
set_option maxRecDepth 10000000 in
theorem k160 : compF Tryz.prog dyn Tryz.f159 c160 = some c160 := by kernel_rfl
set_option maxRecDepth 10000000 in
theorem k162 : compF Tryz.prog dyn Tryz.f161 c162 = some c162 := by kernel_rfl
set_option maxRecDepth 10000000 in
theorem k175 : compF Tryz.prog dyn Tryz.f174 c175 = some c175 := by kernel_rfl
set_option maxRecDepth 10000000 in
theorem k177 : compF Tryz.prog dyn Tryz.f176 c177 = some c177 := by kernel_rfl
set_option maxRecDepth 10000000 in
theorem k188 : compF Tryz.prog dyn Tryz.f187 c188 = some c188 := by kernel_rfl
set_option maxRecDepth 10000000 in
theorem k192 : compF Tryz.prog dyn Tryz.f191 c192 = some c192 := by kernel_rfl
set_option maxRecDepth 10000000 in
theorem k207 : compF Tryz.prog dyn Tryz.f206 c207 = some c207 := by kernel_rfl
set_option maxRecDepth 10000000 in
theorem k214 : compF Tryz.prog dyn Tryz.f213 c214 = some c214 := by kernel_rfl
set_option maxRecDepth 10000000 in
theorem k223 : compF Tryz.prog dyn Tryz.f222 c223 = some c223 := by kernel_rfl
set_option maxRecDepth 10000000 in
theorem k239 : compF Tryz.prog dyn Tryz.f238 c239 = some c239 := by kernel_rfl
set_option maxRecDepth 10000000 in
theorem k253 : compF Tryz.prog dyn Tryz.f252 c253 = some c253 := by kernel_rfl
set_option maxRecDepth 10000000 in
theorem k255 : compF Tryz.prog dyn Tryz.f254 c255 = some c255 := by kernel_rfl
set_option maxRecDepth 10000000 in
theorem k265 : compF Tryz.prog dyn Tryz.f264 c265 = some c265 := by kernel_rfl
set_option maxRecDepth 10000000 in
theorem k266 : compF Tryz.prog dyn Tryz.f265 c266 = some c266 := by kernel_rfl
set_option maxRecDepth 10000000 in
theorem k268 : compF Tryz.prog dyn Tryz.f267 c268 = some c268 := by kernel_rfl
set_option maxRecDepth 10000000 in
theorem k278 : compF Tryz.prog dyn Tryz.f277 c278 = some c278 := by kernel_rfl
set_option maxRecDepth 10000000 in
theorem k282 : compF Tryz.prog dyn Tryz.f281 c282 = some c282 := by kernel_rfl
set_option maxRecDepth 10000000 in
theorem k304 : compF Tryz.prog dyn Tryz.f303 c304 = some c304 := by kernel_rfl
set_option maxRecDepth 10000000 in
theorem k335 : compF Tryz.prog dyn Tryz.f334 c335 = some c335 := by kernel_rfl
set_option maxRecDepth 10000000 in
theorem k337 : compF Tryz.prog dyn Tryz.f336 c337 = some c337 := by kernel_rfl
set_option maxRecDepth 10000000 in
theorem k338 : compF Tryz.prog dyn Tryz.f337 c338 = some c338 := by kernel_rfl
set_option maxRecDepth 10000000 in
theorem k340 : compF Tryz.prog dyn Tryz.f339 c340 = some c340 := by kernel_rfl
set_option maxRecDepth 10000000 in
theorem k344 : compF Tryz.prog dyn Tryz.f343 c344 = some c344 := by kernel_rfl
set_option maxRecDepth 10000000 in
theorem k348 : compF Tryz.prog dyn Tryz.f347 c348 = some c348 := by kernel_rfl
set_option maxRecDepth 10000000 in
theorem k349 : compF Tryz.prog dyn Tryz.f348 c349 = some c349 := by kernel_rfl
set_option maxRecDepth 10000000 in
theorem k364 : compF Tryz.prog dyn Tryz.f363 c364 = some c364 := by kernel_rfl
set_option maxRecDepth 10000000 in
theorem k380 : compF Tryz.prog dyn Tryz.f379 c380 = some c380 := by kernel_rfl
set_option maxRecDepth 10000000 in
theorem k384 : compF Tryz.prog dyn Tryz.f383 c384 = some c384 := by kernel_rfl
set_option maxRecDepth 10000000 in
theorem k385 : compF Tryz.prog dyn Tryz.f384 c385 = some c385 := by kernel_rfl
set_option maxRecDepth 10000000 in
theorem k393 : compF Tryz.prog dyn Tryz.f392 c393 = some c393 := by kernel_rfl
set_option maxRecDepth 10000000 in
theorem k397 : compF Tryz.prog dyn Tryz.f396 c397 = some c397 := by kernel_rfl
set_option maxRecDepth 10000000 in
theorem k398 : compF Tryz.prog dyn Tryz.f397 c398 = some c398 := by kernel_rfl
set_option maxRecDepth 10000000 in
theorem k399 : compF Tryz.prog dyn Tryz.f398 c399 = some c399 := by kernel_rfl
set_option maxRecDepth 10000000 in
theorem k401 : compF Tryz.prog dyn Tryz.f400 c401 = some c401 := by kernel_rfl
set_option maxRecDepth 10000000 in
theorem k426 : compF Tryz.prog dyn Tryz.f425 c426 = some c426 := by kernel_rfl
set_option maxRecDepth 10000000 in
theorem k436 : compF Tryz.prog dyn Tryz.f435 c436 = some c436 := by kernel_rfl
set_option maxRecDepth 10000000 in
theorem k438 : compF Tryz.prog dyn Tryz.f437 c438 = some c438 := by kernel_rfl
set_option maxRecDepth 10000000 in
theorem k439 : compF Tryz.prog dyn Tryz.f438 c439 = some c439 := by kernel_rfl
set_option maxRecDepth 10000000 in
theorem k447 : compF Tryz.prog dyn Tryz.f446 c447 = some c447 := by kernel_rfl
set_option maxRecDepth 10000000 in
theorem k448 : compF Tryz.prog dyn Tryz.f447 c448 = some c448 := by kernel_rfl
set_option maxRecDepth 10000000 in
theorem k458 : compF Tryz.prog dyn Tryz.f457 c458 = some c458 := by kernel_rfl
set_option maxRecDepth 10000000 in
theorem k486 : compF Tryz.prog dyn Tryz.f485 c486 = some c486 := by kernel_rfl
set_option maxRecDepth 10000000 in
theorem k495 : compF Tryz.prog dyn Tryz.f494 c495 = some c495 := by kernel_rfl
set_option maxRecDepth 10000000 in
theorem k505 : compF Tryz.prog dyn Tryz.f504 c505 = some c505 := by kernel_rfl
set_option maxRecDepth 10000000 in
theorem k513 : compF Tryz.prog dyn Tryz.f512 c513 = some c513 := by kernel_rfl
set_option maxRecDepth 10000000 in
theorem k515 : compF Tryz.prog dyn Tryz.f514 c515 = some c515 := by kernel_rfl
set_option maxRecDepth 10000000 in
theorem k523 : compF Tryz.prog dyn Tryz.f522 c523 = some c523 := by kernel_rfl
end Go.Proofs.YtmcigdddcknmmaaGreat
