/- Each function is what the evaluator takes it for; part 4. No condition. -/
import Derived.Test.YtmcigdddcknmmaaGreatProg
import Derived.KernelRfl
import Derived.Test.YtmcigdddcknmmaaGreatPg2
namespace Go.Proofs.YtmcigdddcknmmaaGreat
open Go Go.Ev
set_option maxRecDepth 10000000 in
theorem k4 : compF Tryz.prog dyn Tryz.f3 c4 = some c4 := by kernel_rfl
set_option maxRecDepth 10000000 in
theorem k6 : compF Tryz.prog dyn Tryz.f5 c6 = some c6 := by kernel_rfl
set_option maxRecDepth 10000000 in
theorem k24 : compF Tryz.prog dyn Tryz.f23 c24 = some c24 := by kernel_rfl
set_option maxRecDepth 10000000 in
theorem k25 : compF Tryz.prog dyn Tryz.f24 c25 = some c25 := by kernel_rfl
set_option maxRecDepth 10000000 in
theorem k26 : compF Tryz.prog dyn Tryz.f25 c26 = some c26 := by kernel_rfl
set_option maxRecDepth 10000000 in
theorem k28 : compF Tryz.prog dyn Tryz.f27 c28 = some c28 := by kernel_rfl
set_option maxRecDepth 10000000 in
theorem k31 : compF Tryz.prog dyn Tryz.f30 c31 = some c31 := by kernel_rfl
set_option maxRecDepth 10000000 in
theorem k33 : compF Tryz.prog dyn Tryz.f32 c33 = some c33 := by kernel_rfl
set_option maxRecDepth 10000000 in
theorem k36 : compF Tryz.prog dyn Tryz.f35 c36 = some c36 := by kernel_rfl
set_option maxRecDepth 10000000 in
theorem k38 : compF Tryz.prog dyn Tryz.f37 c38 = some c38 := by kernel_rfl
set_option maxRecDepth 10000000 in
theorem k43 : compF Tryz.prog dyn Tryz.f42 c43 = some c43 := by kernel_rfl
set_option maxRecDepth 10000000 in
theorem k51 : compF Tryz.prog dyn Tryz.f50 c51 = some c51 := by kernel_rfl
set_option maxRecDepth 10000000 in
theorem k61 : compF Tryz.prog dyn Tryz.f60 c61 = some c61 := by kernel_rfl
set_option maxRecDepth 10000000 in
theorem k76 : compF Tryz.prog dyn Tryz.f75 c76 = some c76 := by kernel_rfl
set_option maxRecDepth 10000000 in
theorem k84 : compF Tryz.prog dyn Tryz.f83 c84 = some c84 := by kernel_rfl
set_option maxRecDepth 10000000 in
theorem k86 : compF Tryz.prog dyn Tryz.f85 c86 = some c86 := by kernel_rfl
set_option maxRecDepth 10000000 in
theorem k87 : compF Tryz.prog dyn Tryz.f86 c87 = some c87 := by kernel_rfl
set_option maxRecDepth 10000000 in
theorem k103 : compF Tryz.prog dyn Tryz.f102 c103 = some c103 := by kernel_rfl
set_option maxRecDepth 10000000 in
theorem k104 : compF Tryz.prog dyn Tryz.f103 c104 = some c104 := by kernel_rfl
set_option maxRecDepth 10000000 in
theorem k117 : compF Tryz.prog dyn Tryz.f116 c117 = some c117 := by kernel_rfl
set_option maxRecDepth 10000000 in
theorem k118 : compF Tryz.prog dyn Tryz.f117 c118 = some c118 := by kernel_rfl
set_option maxRecDepth 10000000 in
theorem k152 : compF Tryz.prog dyn Tryz.f151 c152 = some c152 := by kernel_rfl
set_option maxRecDepth 10000000 in
theorem k156 : compF Tryz.prog dyn Tryz.f155 c156 = some c156 := by kernel_rfl
set_option maxRecDepth 10000000 in
theorem k157 : compF Tryz.prog dyn Tryz.f156 c157 = some c157 := by kernel_rfl
set_option maxRecDepth 10000000 in
theorem k158 : compF Tryz.prog dyn Tryz.f157 c158 = some c158 := by kernel_rfl
set_option maxRecDepth 10000000 in
theorem k161 : compF Tryz.prog dyn Tryz.f160 c161 = some c161 := by kernel_rfl
set_option maxRecDepth 10000000 in
theorem k163 : compF Tryz.prog dyn Tryz.f162 c163 = some c163 := by kernel_rfl
set_option maxRecDepth 10000000 in
theorem k172 : compF Tryz.prog dyn Tryz.f171 c172 = some c172 := by kernel_rfl
set_option maxRecDepth 10000000 in
theorem k173 : compF Tryz.prog dyn Tryz.f172 c173 = some c173 := by kernel_rfl
set_option maxRecDepth 10000000 in
theorem k185 : compF Tryz.prog dyn Tryz.f184 c185 = some c185 := by kernel_rfl
set_option maxRecDepth 10000000 in
theorem k187 : compF Tryz.prog dyn Tryz.f186 c187 = some c187 := by kernel_rfl
set_option maxRecDepth 10000000 in
theorem k193 : compF Tryz.prog dyn Tryz.f192 c193 = some c193 := by kernel_rfl
set_option maxRecDepth 10000000 in
theorem k212 : compF Tryz.prog dyn Tryz.f211 c212 = some c212 := by kernel_rfl
set_option maxRecDepth 10000000 in
theorem k225 : compF Tryz.prog dyn Tryz.f224 c225 = some c225 := by kernel_rfl
set_option maxRecDepth 10000000 in
theorem k229 : compF Tryz.prog dyn Tryz.f228 c229 = some c229 := by kernel_rfl
set_option maxRecDepth 10000000 in
theorem k234 : compF Tryz.prog dyn Tryz.f233 c234 = some c234 := by kernel_rfl
set_option maxRecDepth 10000000 in
theorem k242 : compF Tryz.prog dyn Tryz.f241 c242 = some c242 := by kernel_rfl
set_option maxRecDepth 10000000 in
theorem k252 : compF Tryz.prog dyn Tryz.f251 c252 = some c252 := by kernel_rfl
set_option maxRecDepth 10000000 in
theorem k258 : compF Tryz.prog dyn Tryz.f257 c258 = some c258 := by kernel_rfl
set_option maxRecDepth 10000000 in
theorem k263 : compF Tryz.prog dyn Tryz.f262 c263 = some c263 := by kernel_rfl
set_option maxRecDepth 10000000 in
theorem k269 : compF Tryz.prog dyn Tryz.f268 c269 = some c269 := by kernel_rfl
set_option maxRecDepth 10000000 in
theorem k271 : compF Tryz.prog dyn Tryz.f270 c271 = some c271 := by kernel_rfl
set_option maxRecDepth 10000000 in
theorem k320 : compF Tryz.prog dyn Tryz.f319 c320 = some c320 := by kernel_rfl
set_option maxRecDepth 10000000 in
theorem k323 : compF Tryz.prog dyn Tryz.f322 c323 = some c323 := by kernel_rfl
set_option maxRecDepth 10000000 in
theorem k346 : compF Tryz.prog dyn Tryz.f345 c346 = some c346 := by kernel_rfl
set_option maxRecDepth 10000000 in
theorem k350 : compF Tryz.prog dyn Tryz.f349 c350 = some c350 := by kernel_rfl
set_option maxRecDepth 10000000 in
theorem k355 : compF Tryz.prog dyn Tryz.f354 c355 = some c355 := by kernel_rfl
set_option maxRecDepth 10000000 in
theorem k358 : compF Tryz.prog dyn Tryz.f357 c358 = some c358 := by kernel_rfl
set_option maxRecDepth 10000000 in
theorem k360 : compF Tryz.prog dyn Tryz.f359 c360 = some c360 := by kernel_rfl
set_option maxRecDepth 10000000 in
theorem k363 : compF Tryz.prog dyn Tryz.f362 c363 = some c363 := by kernel_rfl
set_option maxRecDepth 10000000 in
theorem k371 : compF Tryz.prog dyn Tryz.f370 c371 = some c371 := by kernel_rfl
set_option maxRecDepth 10000000 in
theorem k372 : compF Tryz.prog dyn Tryz.f371 c372 = some c372 := by kernel_rfl
set_option maxRecDepth 10000000 in
theorem k390 : compF Tryz.prog dyn Tryz.f389 c390 = some c390 := by kernel_rfl
set_option maxRecDepth 10000000 in
theorem k391 : compF Tryz.prog dyn Tryz.f390 c391 = some c391 := by kernel_rfl
set_option maxRecDepth 10000000 in
theorem k392 : compF Tryz.prog dyn Tryz.f391 c392 = some c392 := by kernel_rfl
set_option maxRecDepth 10000000 in
theorem k407 : compF Tryz.prog dyn Tryz.f406 c407 = some c407 := by kernel_rfl
set_option maxRecDepth 10000000 in
theorem k445 : compF Tryz.prog dyn Tryz.f444 c445 = some c445 := by kernel_rfl
set_option maxRecDepth 10000000 in
theorem k454 : compF Tryz.prog dyn Tryz.f453 c454 = some c454 := by kernel_rfl
set_option maxRecDepth 10000000 in
theorem k459 : compF Tryz.prog dyn Tryz.f458 c459 = some c459 := by kernel_rfl
set_option maxRecDepth 10000000 in
theorem k468 : compF Tryz.prog dyn Tryz.f467 c468 = some c468 := by kernel_rfl
set_option maxRecDepth 10000000 in
theorem k504 : compF Tryz.prog dyn Tryz.f503 c504 = some c504 := by kernel_rfl
set_option maxRecDepth 10000000 in
theorem k511 : compF Tryz.prog dyn Tryz.f510 c511 = some c511 := by kernel_rfl
set_option maxRecDepth 10000000 in
theorem k522 : compF Tryz.prog dyn Tryz.f521 c522 = some c522 := by kernel_rfl
set_option maxRecDepth 10000000 in
theorem k528 : compF Tryz.prog dyn Tryz.f527 c528 = some c528 := by kernel_rfl
set_option maxRecDepth 10000000 in
theorem k572 : compF Tryz.prog dyn Tryz.f571 c572 = some c572 := by kernel_rfl
set_option maxRecDepth 10000000 in
theorem k612 : compF Tryz.prog dyn Tryz.f611 c612 = some c612 := by kernel_rfl
end Go.Proofs.YtmcigdddcknmmaaGreat
