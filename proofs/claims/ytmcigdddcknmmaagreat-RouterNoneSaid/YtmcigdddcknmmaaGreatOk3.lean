/- Each function is what the evaluator takes it for; part 3. No condition. -/
import Derived.Test.YtmcigdddcknmmaaGreatProg
import Derived.KernelRfl
import Derived.Test.YtmcigdddcknmmaaGreatPg2
namespace Go.Proofs.YtmcigdddcknmmaaGreat
open Go Go.Ev
set_option maxRecDepth 10000000 in
theorem k11 : compF Tryz.prog dyn Tryz.f10 c11 = some c11 := by kernel_rfl
set_option maxRecDepth 10000000 in
theorem k15 : compF Tryz.prog dyn Tryz.f14 c15 = some c15 := by kernel_rfl
set_option maxRecDepth 10000000 in
theorem k17 : compF Tryz.prog dyn Tryz.f16 c17 = some c17 := by kernel_rfl
set_option maxRecDepth 10000000 in
theorem k20 : compF Tryz.prog dyn Tryz.f19 c20 = some c20 := by kernel_rfl
set_option maxRecDepth 10000000 in
theorem k30 : compF Tryz.prog dyn Tryz.f29 c30 = some c30 := by kernel_rfl
set_option maxRecDepth 10000000 in
theorem k35 : compF Tryz.prog dyn Tryz.f34 c35 = some c35 := by kernel_rfl
set_option maxRecDepth 10000000 in
theorem k47 : compF Tryz.prog dyn Tryz.f46 c47 = some c47 := by kernel_rfl
set_option maxRecDepth 10000000 in
theorem k52 : compF Tryz.prog dyn Tryz.f51 c52 = some c52 := by kernel_rfl
set_option maxRecDepth 10000000 in
theorem k62 : compF Tryz.prog dyn Tryz.f61 c62 = some c62 := by kernel_rfl
set_option maxRecDepth 10000000 in
theorem k63 : compF Tryz.prog dyn Tryz.f62 c63 = some c63 := by kernel_rfl
set_option maxRecDepth 10000000 in
theorem k66 : compF Tryz.prog dyn Tryz.f65 c66 = some c66 := by kernel_rfl
set_option maxRecDepth 10000000 in
theorem k71 : compF Tryz.prog dyn Tryz.f70 c71 = some c71 := by kernel_rfl
set_option maxRecDepth 10000000 in
theorem k77 : compF Tryz.prog dyn Tryz.f76 c77 = some c77 := by kernel_rfl
set_option maxRecDepth 10000000 in
theorem k79 : compF Tryz.prog dyn Tryz.f78 c79 = some c79 := by kernel_rfl
set_option maxRecDepth 10000000 in
theorem k80 : compF Tryz.prog dyn Tryz.f79 c80 = some c80 := by kernel_rfl
set_option maxRecDepth 10000000 in
theorem k85 : compF Tryz.prog dyn Tryz.f84 c85 = some c85 := by kernel_rfl
set_option maxRecDepth 10000000 in
theorem k89 : compF Tryz.prog dyn Tryz.f88 c89 = some c89 := by kernel_rfl
set_option maxRecDepth 10000000 in
theorem k107 : compF Tryz.prog dyn Tryz.f106 c107 = some c107 := by kernel_rfl
set_option maxRecDepth 10000000 in
theorem k108 : compF Tryz.prog dyn Tryz.f107 c108 = some c108 := by kernel_rfl
set_option maxRecDepth 10000000 in
theorem k109 : compF Tryz.prog dyn Tryz.f108 c109 = some c109 := by kernel_rfl
set_option maxRecDepth 10000000 in
theorem k114 : compF Tryz.prog dyn Tryz.f113 c114 = some c114 := by kernel_rfl
set_option maxRecDepth 10000000 in
theorem k125 : compF Tryz.prog dyn Tryz.f124 c125 = some c125 := by kernel_rfl
set_option maxRecDepth 10000000 in
theorem k142 : compF Tryz.prog dyn Tryz.f141 c142 = some c142 := by kernel_rfl
set_option maxRecDepth 10000000 in
theorem k155 : compF Tryz.prog dyn Tryz.f154 c155 = some c155 := by kernel_rfl
set_option maxRecDepth 10000000 in
theorem k168 : compF Tryz.prog dyn Tryz.f167 c168 = some c168 := by kernel_rfl
set_option maxRecDepth 10000000 in
theorem k174 : compF Tryz.prog dyn Tryz.f173 c174 = some c174 := by kernel_rfl
set_option maxRecDepth 10000000 in
theorem k186 : compF Tryz.prog dyn Tryz.f185 c186 = some c186 := by kernel_rfl
set_option maxRecDepth 10000000 in
theorem k189 : compF Tryz.prog dyn Tryz.f188 c189 = some c189 := by kernel_rfl
set_option maxRecDepth 10000000 in
theorem k200 : compF Tryz.prog dyn Tryz.f199 c200 = some c200 := by kernel_rfl
set_option maxRecDepth 10000000 in
theorem k208 : compF Tryz.prog dyn Tryz.f207 c208 = some c208 := by kernel_rfl
set_option maxRecDepth 10000000 in
theorem k209 : compF Tryz.prog dyn Tryz.f208 c209 = some c209 := by kernel_rfl
set_option maxRecDepth 10000000 in
theorem k210 : compF Tryz.prog dyn Tryz.f209 c210 = some c210 := by kernel_rfl
set_option maxRecDepth 10000000 in
theorem k224 : compF Tryz.prog dyn Tryz.f223 c224 = some c224 := by kernel_rfl
set_option maxRecDepth 10000000 in
theorem k241 : compF Tryz.prog dyn Tryz.f240 c241 = some c241 := by kernel_rfl
set_option maxRecDepth 10000000 in
theorem k254 : compF Tryz.prog dyn Tryz.f253 c254 = some c254 := by kernel_rfl
set_option maxRecDepth 10000000 in
theorem k260 : compF Tryz.prog dyn Tryz.f259 c260 = some c260 := by kernel_rfl
set_option maxRecDepth 10000000 in
theorem k264 : compF Tryz.prog dyn Tryz.f263 c264 = some c264 := by kernel_rfl
set_option maxRecDepth 10000000 in
theorem k270 : compF Tryz.prog dyn Tryz.f269 c270 = some c270 := by kernel_rfl
set_option maxRecDepth 10000000 in
theorem k276 : compF Tryz.prog dyn Tryz.f275 c276 = some c276 := by kernel_rfl
set_option maxRecDepth 10000000 in
theorem k281 : compF Tryz.prog dyn Tryz.f280 c281 = some c281 := by kernel_rfl
set_option maxRecDepth 10000000 in
theorem k287 : compF Tryz.prog dyn Tryz.f286 c287 = some c287 := by kernel_rfl
set_option maxRecDepth 10000000 in
theorem k292 : compF Tryz.prog dyn Tryz.f291 c292 = some c292 := by kernel_rfl
set_option maxRecDepth 10000000 in
theorem k293 : compF Tryz.prog dyn Tryz.f292 c293 = some c293 := by kernel_rfl
set_option maxRecDepth 10000000 in
theorem k295 : compF Tryz.prog dyn Tryz.f294 c295 = some c295 := by kernel_rfl
set_option maxRecDepth 10000000 in
theorem k313 : compF Tryz.prog dyn Tryz.f312 c313 = some c313 := by kernel_rfl
set_option maxRecDepth 10000000 in
theorem k321 : compF Tryz.prog dyn Tryz.f320 c321 = some c321 := by kernel_rfl
set_option maxRecDepth 10000000 in
theorem k339 : compF Tryz.prog dyn Tryz.f338 c339 = some c339 := by kernel_rfl
set_option maxRecDepth 10000000 in
theorem k341 : compF Tryz.prog dyn Tryz.f340 c341 = some c341 := by kernel_rfl
set_option maxRecDepth 10000000 in
theorem k342 : compF Tryz.prog dyn Tryz.f341 c342 = some c342 := by kernel_rfl
set_option maxRecDepth 10000000 in
theorem k343 : compF Tryz.prog dyn Tryz.f342 c343 = some c343 := by kernel_rfl
set_option maxRecDepth 10000000 in
theorem k345 : compF Tryz.prog dyn Tryz.f344 c345 = some c345 := by kernel_rfl
set_option maxRecDepth 10000000 in
theorem k351 : compF Tryz.prog dyn Tryz.f350 c351 = some c351 := by kernel_rfl
set_option maxRecDepth 10000000 in
theorem k354 : compF Tryz.prog dyn Tryz.f353 c354 = some c354 := by kernel_rfl
set_option maxRecDepth 10000000 in
theorem k357 : compF Tryz.prog dyn Tryz.f356 c357 = some c357 := by kernel_rfl
set_option maxRecDepth 10000000 in
theorem k368 : compF Tryz.prog dyn Tryz.f367 c368 = some c368 := by kernel_rfl
set_option maxRecDepth 10000000 in
theorem k369 : compF Tryz.prog dyn Tryz.f368 c369 = some c369 := by kernel_rfl
set_option maxRecDepth 10000000 in
theorem k370 : compF Tryz.prog dyn Tryz.f369 c370 = some c370 := by kernel_rfl
set_option maxRecDepth 10000000 in
theorem k402 : compF Tryz.prog dyn Tryz.f401 c402 = some c402 := by kernel_rfl
set_option maxRecDepth 10000000 in
theorem k404 : compF Tryz.prog dyn Tryz.f403 c404 = some c404 := by kernel_rfl
set_option maxRecDepth 10000000 in
theorem k413 : compF Tryz.prog dyn Tryz.f412 c413 = some c413 := by kernel_rfl
set_option maxRecDepth 10000000 in
theorem k421 : compF Tryz.prog dyn Tryz.f420 c421 = some c421 := by kernel_rfl
set_option maxRecDepth 10000000 in
theorem k427 : compF Tryz.prog dyn Tryz.f426 c427 = some c427 := by kernel_rfl
set_option maxRecDepth 10000000 in
theorem k441 : compF Tryz.prog dyn Tryz.f440 c441 = some c441 := by kernel_rfl
set_option maxRecDepth 10000000 in
theorem k496 : compF Tryz.prog dyn Tryz.f495 c496 = some c496 := by kernel_rfl
set_option maxRecDepth 10000000 in
theorem k550 : compF Tryz.prog dyn Tryz.f549 c550 = some c550 := by kernel_rfl
set_option maxRecDepth 10000000 in
theorem k567 : compF Tryz.prog dyn Tryz.f566 c567 = some c567 := by kernel_rfl
end Go.Proofs.YtmcigdddcknmmaaGreat
