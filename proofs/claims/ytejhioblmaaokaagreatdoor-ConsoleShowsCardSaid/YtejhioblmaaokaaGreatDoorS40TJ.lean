import Derived.Test.YtejhioblmaaokaaGreatDoorS40TP0
import Derived.Test.YtejhioblmaaokaaGreatDoorS40TP1
import Derived.Test.YtejhioblmaaokaaGreatDoorS40TP2
import Derived.Test.YtejhioblmaaokaaGreatDoorS40TP3
import Derived.Test.YtejhioblmaaokaaGreatDoorS40TP4
import Derived.Test.YtejhioblmaaokaaGreatDoorS40TP5
import Derived.Test.YtejhioblmaaokaaGreatDoorS40TP6
import Derived.Test.YtejhioblmaaokaaGreatDoorS40TP7
set_option linter.all false
/- Known results: joined. -/
namespace Go.AM.S40
open Go Go.Proofs
noncomputable section
set_option maxRecDepth 100000 in
theorem ftn1_21 : ∀ q ∈ tn1_21, Fact E3 Tryz.prog 21 q := fact_tab env3_ok ov3_ok rfl ktn1_21
set_option maxRecDepth 100000 in
theorem ftn1_579 : ∀ q ∈ tn1_579, Fact E3 Tryz.prog 579 q := fact_tab env3_ok ov3_ok rfl ktn1_579
set_option maxRecDepth 100000 in
theorem ftn1_583 : ∀ q ∈ tn1_583, Fact E3 Tryz.prog 583 q := fact_tab env3_ok ov3_ok rfl ktn1_583
set_option maxRecDepth 100000 in
theorem ftn1_418 : ∀ q ∈ tn1_418, Fact E3 Tryz.prog 418 q := fact_tab env3_ok ov3_ok rfl ktn1_418
set_option maxRecDepth 100000 in
theorem ftn1_385 : ∀ q ∈ tn1_385, Fact E3 Tryz.prog 385 q := fact_tab env3_ok ov3_ok rfl ktn1_385
set_option maxRecDepth 100000 in
theorem ftn1_47 : ∀ q ∈ tn1_47, Fact E3 Tryz.prog 47 q := fact_tab env3_ok ov3_ok rfl ktn1_47
set_option maxRecDepth 100000 in
theorem ftn1_23 : ∀ q ∈ tn1_23, Fact E3 Tryz.prog 23 q := fact_tab env3_ok ov3_ok rfl ktn1_23
set_option maxRecDepth 100000 in
theorem ftn1_16 : ∀ q ∈ tn1_16, Fact E3 Tryz.prog 16 q := fact_tab env3_ok ov3_ok rfl ktn1_16
set_option maxRecDepth 100000 in
theorem ftn1_682 : ∀ q ∈ tn1_682, Fact E3 Tryz.prog 682 q := fact_tab env3_ok ov3_ok rfl ktn1_682
set_option maxRecDepth 100000 in
theorem ftn1_235 : ∀ q ∈ tn1_235, Fact E3 Tryz.prog 235 q := fact_tab env3_ok ov3_ok rfl ktn1_235
set_option maxRecDepth 100000 in
theorem ftn1_208 : ∀ q ∈ tn1_208, Fact E3 Tryz.prog 208 q := fact_tab env3_ok ov3_ok rfl ktn1_208
set_option maxRecDepth 100000 in
theorem ftn1_811 : ∀ q ∈ tn1_811, Fact E3 Tryz.prog 811 q := fact_tab env3_ok ov3_ok rfl ktn1_811
set_option maxRecDepth 100000 in
theorem ftn1_310 : ∀ q ∈ tn1_310, Fact E3 Tryz.prog 310 q := fact_tab env3_ok ov3_ok rfl ktn1_310
set_option maxRecDepth 100000 in
theorem ftn1_176 : ∀ q ∈ tn1_176, Fact E3 Tryz.prog 176 q := fact_tab env3_ok ov3_ok rfl ktn1_176
set_option maxRecDepth 100000 in
theorem ftn1_30 : ∀ q ∈ tn1_30, Fact E3 Tryz.prog 30 q := fact_tab env3_ok ov3_ok rfl ktn1_30
set_option maxRecDepth 100000 in
theorem ftn1_49 : ∀ q ∈ tn1_49, Fact E3 Tryz.prog 49 q := fact_tab env3_ok ov3_ok rfl ktn1_49
set_option maxRecDepth 100000 in
theorem ftn1_961 : ∀ q ∈ tn1_961, Fact E3 Tryz.prog 961 q := fact_tab env3_ok ov3_ok rfl ktn1_961
set_option maxRecDepth 100000 in
theorem ftn1_836 : ∀ q ∈ tn1_836, Fact E3 Tryz.prog 836 q := fact_tab env3_ok ov3_ok rfl ktn1_836
set_option maxRecDepth 100000 in
theorem ftn1_319 : ∀ q ∈ tn1_319, Fact E3 Tryz.prog 319 q := fact_tab env3_ok ov3_ok rfl ktn1_319
set_option maxRecDepth 100000 in
theorem ftn1_917 : ∀ q ∈ tn1_917, Fact E3 Tryz.prog 917 q := fact_tab env3_ok ov3_ok rfl ktn1_917
set_option maxRecDepth 100000 in
theorem ftn1_609 : ∀ q ∈ tn1_609, Fact E3 Tryz.prog 609 q := fact_tab env3_ok ov3_ok rfl ktn1_609
set_option maxRecDepth 100000 in
theorem ftn1_404 : ∀ q ∈ tn1_404, Fact E3 Tryz.prog 404 q := fact_tab env3_ok ov3_ok rfl ktn1_404
set_option maxRecDepth 100000 in
theorem ftn1_276 : ∀ q ∈ tn1_276, Fact E3 Tryz.prog 276 q := fact_tab env3_ok ov3_ok rfl ktn1_276
set_option maxRecDepth 100000 in
theorem ftn1_272 : ∀ q ∈ tn1_272, Fact E3 Tryz.prog 272 q := fact_tab env3_ok ov3_ok rfl ktn1_272
set_option maxRecDepth 100000 in
theorem ftn1_224 : ∀ q ∈ tn1_224, Fact E3 Tryz.prog 224 q := fact_tab env3_ok ov3_ok rfl ktn1_224
set_option maxRecDepth 100000 in
theorem ftn1_228 : ∀ q ∈ tn1_228, Fact E3 Tryz.prog 228 q := fact_tab env3_ok ov3_ok rfl ktn1_228
set_option maxRecDepth 100000 in
theorem ftn1_229 : ∀ q ∈ tn1_229, Fact E3 Tryz.prog 229 q := fact_tab env3_ok ov3_ok rfl ktn1_229
set_option maxRecDepth 100000 in
theorem ftn1_40 : ∀ q ∈ tn1_40, Fact E3 Tryz.prog 40 q := fact_tab env3_ok ov3_ok rfl ktn1_40
set_option maxRecDepth 100000 in
theorem ftabs1 : TabsOk E3 Tryz.prog tabs1 := .cons ftn1_16 (.cons ftn1_21 (.cons ftn1_23 (.cons ftn1_30 (.cons ftn1_40 (.cons ftn1_47 (.cons ftn1_49 (.cons ftn1_176 (.cons ftn1_208 (.cons ftn1_224 (.cons ftn1_228 (.cons ftn1_229 (.cons ftn1_235 (.cons ftn1_272 (.cons ftn1_276 (.cons ftn1_310 (.cons ftn1_319 (.cons ftn1_385 (.cons ftn1_404 (.cons ftn1_418 (.cons ftn1_579 (.cons ftn1_583 (.cons ftn1_609 (.cons ftn1_682 (.cons ftn1_811 (.cons ftn1_836 (.cons ftn1_917 (.cons ftn1_961 (.nil))))))))))))))))))))))))))))
set_option maxRecDepth 100000 in
theorem fenv1 : EnvOk F1 Tryz.prog := layer_env env3_ok
set_option maxRecDepth 100000 in
theorem fov1 : OvOk F1 Tryz.prog := layer_ov ov3_ok env3_ok ov3_ok rfl ftabs1
set_option maxRecDepth 100000 in
theorem ftn2_383 : ∀ q ∈ tn2_383, Fact E3 Tryz.prog 383 q := fact_tab fenv1 fov1 rfl ktn2_383
set_option maxRecDepth 100000 in
theorem ftn2_385 : ∀ q ∈ tn2_385, Fact E3 Tryz.prog 385 q := fact_tab fenv1 fov1 rfl ktn2_385
set_option maxRecDepth 100000 in
theorem ftb2_385 : ∀ q ∈ tb2_385, Fact E3 Tryz.prog 385 q := fact_app ftn2_385 ftn1_385
set_option maxRecDepth 100000 in
theorem ftn2_13 : ∀ q ∈ tn2_13, Fact E3 Tryz.prog 13 q := fact_tab fenv1 fov1 rfl ktn2_13
set_option maxRecDepth 100000 in
theorem ftn2_166 : ∀ q ∈ tn2_166, Fact E3 Tryz.prog 166 q := fact_tab fenv1 fov1 rfl ktn2_166
set_option maxRecDepth 100000 in
theorem ftn2_584 : ∀ q ∈ tn2_584, Fact E3 Tryz.prog 584 q := fact_tab fenv1 fov1 rfl ktn2_584
set_option maxRecDepth 100000 in
theorem ftn2_718 : ∀ q ∈ tn2_718, Fact E3 Tryz.prog 718 q := fact_tab fenv1 fov1 rfl ktn2_718
set_option maxRecDepth 100000 in
theorem ftn2_646 : ∀ q ∈ tn2_646, Fact E3 Tryz.prog 646 q := fact_tab fenv1 fov1 rfl ktn2_646
set_option maxRecDepth 100000 in
theorem ftn2_19 : ∀ q ∈ tn2_19, Fact E3 Tryz.prog 19 q := fact_tab fenv1 fov1 rfl ktn2_19
set_option maxRecDepth 100000 in
theorem ftn2_32 : ∀ q ∈ tn2_32, Fact E3 Tryz.prog 32 q := fact_tab fenv1 fov1 rfl ktn2_32
set_option maxRecDepth 100000 in
theorem ftn2_858 : ∀ q ∈ tn2_858, Fact E3 Tryz.prog 858 q := fact_tab fenv1 fov1 rfl ktn2_858
set_option maxRecDepth 100000 in
theorem ftn2_682 : ∀ q ∈ tn2_682, Fact E3 Tryz.prog 682 q := fact_tab fenv1 fov1 rfl ktn2_682
set_option maxRecDepth 100000 in
theorem ftb2_682 : ∀ q ∈ tb2_682, Fact E3 Tryz.prog 682 q := fact_app ftn2_682 ftn1_682
set_option maxRecDepth 100000 in
theorem ftn2_265 : ∀ q ∈ tn2_265, Fact E3 Tryz.prog 265 q := fact_tab fenv1 fov1 rfl ktn2_265
set_option maxRecDepth 100000 in
theorem ftn2_235 : ∀ q ∈ tn2_235, Fact E3 Tryz.prog 235 q := fact_tab fenv1 fov1 rfl ktn2_235
set_option maxRecDepth 100000 in
theorem ftb2_235 : ∀ q ∈ tb2_235, Fact E3 Tryz.prog 235 q := fact_app ftn2_235 ftn1_235
set_option maxRecDepth 100000 in
theorem ftn2_279 : ∀ q ∈ tn2_279, Fact E3 Tryz.prog 279 q := fact_tab fenv1 fov1 rfl ktn2_279
set_option maxRecDepth 100000 in
theorem ftn2_415 : ∀ q ∈ tn2_415, Fact E3 Tryz.prog 415 q := fact_tab fenv1 fov1 rfl ktn2_415
set_option maxRecDepth 100000 in
theorem ftn2_628 : ∀ q ∈ tn2_628, Fact E3 Tryz.prog 628 q := fact_tab fenv1 fov1 rfl ktn2_628
set_option maxRecDepth 100000 in
theorem ftn2_280 : ∀ q ∈ tn2_280, Fact E3 Tryz.prog 280 q := fact_tab fenv1 fov1 rfl ktn2_280
set_option maxRecDepth 100000 in
theorem ftn2_283 : ∀ q ∈ tn2_283, Fact E3 Tryz.prog 283 q := fact_tab fenv1 fov1 rfl ktn2_283
set_option maxRecDepth 100000 in
theorem ftn2_216 : ∀ q ∈ tn2_216, Fact E3 Tryz.prog 216 q := fact_tab fenv1 fov1 rfl ktn2_216
set_option maxRecDepth 100000 in
theorem ftn2_22 : ∀ q ∈ tn2_22, Fact E3 Tryz.prog 22 q := fact_tab fenv1 fov1 rfl ktn2_22
set_option maxRecDepth 100000 in
theorem ftabs2 : TabsOk E3 Tryz.prog tabs2 := .cons ftn2_13 (.cons ftn1_16 (.cons ftn2_19 (.cons ftn1_21 (.cons ftn2_22 (.cons ftn1_23 (.cons ftn1_30 (.cons ftn2_32 (.cons ftn1_40 (.cons ftn1_47 (.cons ftn1_49 (.cons ftn2_166 (.cons ftn1_176 (.cons ftn1_208 (.cons ftn2_216 (.cons ftn1_224 (.cons ftn1_228 (.cons ftn1_229 (.cons ftb2_235 (.cons ftn2_265 (.cons ftn1_272 (.cons ftn1_276 (.cons ftn2_279 (.cons ftn2_280 (.cons ftn2_283 (.cons ftn1_310 (.cons ftn1_319 (.cons ftn2_383 (.cons ftb2_385 (.cons ftn1_404 (.cons ftn2_415 (.cons ftn1_418 (.cons ftn1_579 (.cons ftn1_583 (.cons ftn2_584 (.cons ftn1_609 (.cons ftn2_628 (.cons ftn2_646 (.cons ftb2_682 (.cons ftn2_718 (.cons ftn1_811 (.cons ftn1_836 (.cons ftn2_858 (.cons ftn1_917 (.cons ftn1_961 (.nil)))))))))))))))))))))))))))))))))))))))))))))
set_option maxRecDepth 100000 in
theorem fenv2 : EnvOk F2 Tryz.prog := layer_env env3_ok
set_option maxRecDepth 100000 in
theorem fov2 : OvOk F2 Tryz.prog := layer_ov ov3_ok fenv1 fov1 rfl ftabs2
set_option maxRecDepth 100000 in
theorem ftn3_253 : ∀ q ∈ tn3_253, Fact E3 Tryz.prog 253 q := fact_tab fenv2 fov2 rfl ktn3_253
set_option maxRecDepth 100000 in
theorem ftn3_6 : ∀ q ∈ tn3_6, Fact E3 Tryz.prog 6 q := fact_tab fenv2 fov2 rfl ktn3_6
set_option maxRecDepth 100000 in
theorem ftn3_713 : ∀ q ∈ tn3_713, Fact E3 Tryz.prog 713 q := fact_tab fenv2 fov2 rfl ktn3_713
set_option maxRecDepth 100000 in
theorem ftn3_385 : ∀ q ∈ tn3_385, Fact E3 Tryz.prog 385 q := fact_tab fenv2 fov2 rfl ktn3_385
set_option maxRecDepth 100000 in
theorem ftb3_385 : ∀ q ∈ tb3_385, Fact E3 Tryz.prog 385 q := fact_app ftn3_385 ftb2_385
set_option maxRecDepth 100000 in
theorem ftn3_310 : ∀ q ∈ tn3_310, Fact E3 Tryz.prog 310 q := fact_tab fenv2 fov2 rfl ktn3_310
set_option maxRecDepth 100000 in
theorem ftb3_310 : ∀ q ∈ tb3_310, Fact E3 Tryz.prog 310 q := fact_app ftn3_310 ftn1_310
set_option maxRecDepth 100000 in
theorem ftn3_857 : ∀ q ∈ tn3_857, Fact E3 Tryz.prog 857 q := fact_tab fenv2 fov2 rfl ktn3_857
set_option maxRecDepth 100000 in
theorem ftn3_267 : ∀ q ∈ tn3_267, Fact E3 Tryz.prog 267 q := fact_tab fenv2 fov2 rfl ktn3_267
set_option maxRecDepth 100000 in
theorem ftn3_166 : ∀ q ∈ tn3_166, Fact E3 Tryz.prog 166 q := fact_tab fenv2 fov2 rfl ktn3_166
set_option maxRecDepth 100000 in
theorem ftb3_166 : ∀ q ∈ tb3_166, Fact E3 Tryz.prog 166 q := fact_app ftn3_166 ftn2_166
set_option maxRecDepth 100000 in
theorem ftn3_164 : ∀ q ∈ tn3_164, Fact E3 Tryz.prog 164 q := fact_tab fenv2 fov2 rfl ktn3_164
set_option maxRecDepth 100000 in
theorem ftn3_411 : ∀ q ∈ tn3_411, Fact E3 Tryz.prog 411 q := fact_tab fenv2 fov2 rfl ktn3_411
set_option maxRecDepth 100000 in
theorem ftn3_224 : ∀ q ∈ tn3_224, Fact E3 Tryz.prog 224 q := fact_tab fenv2 fov2 rfl ktn3_224
set_option maxRecDepth 100000 in
theorem ftb3_224 : ∀ q ∈ tb3_224, Fact E3 Tryz.prog 224 q := fact_app ftn3_224 ftn1_224
set_option maxRecDepth 100000 in
theorem ftn3_409 : ∀ q ∈ tn3_409, Fact E3 Tryz.prog 409 q := fact_tab fenv2 fov2 rfl ktn3_409
set_option maxRecDepth 100000 in
theorem ftn3_150 : ∀ q ∈ tn3_150, Fact E3 Tryz.prog 150 q := fact_tab fenv2 fov2 rfl ktn3_150
set_option maxRecDepth 100000 in
theorem ftn3_12 : ∀ q ∈ tn3_12, Fact E3 Tryz.prog 12 q := fact_tab fenv2 fov2 rfl ktn3_12
set_option maxRecDepth 100000 in
theorem ftabs3 : TabsOk E3 Tryz.prog tabs3 := .cons ftn3_6 (.cons ftn3_12 (.cons ftn2_13 (.cons ftn1_16 (.cons ftn2_19 (.cons ftn1_21 (.cons ftn2_22 (.cons ftn1_23 (.cons ftn1_30 (.cons ftn2_32 (.cons ftn1_40 (.cons ftn1_47 (.cons ftn1_49 (.cons ftn3_150 (.cons ftn3_164 (.cons ftb3_166 (.cons ftn1_176 (.cons ftn1_208 (.cons ftn2_216 (.cons ftb3_224 (.cons ftn1_228 (.cons ftn1_229 (.cons ftb2_235 (.cons ftn3_253 (.cons ftn2_265 (.cons ftn3_267 (.cons ftn1_272 (.cons ftn1_276 (.cons ftn2_279 (.cons ftn2_280 (.cons ftn2_283 (.cons ftb3_310 (.cons ftn1_319 (.cons ftn2_383 (.cons ftb3_385 (.cons ftn1_404 (.cons ftn3_409 (.cons ftn3_411 (.cons ftn2_415 (.cons ftn1_418 (.cons ftn1_579 (.cons ftn1_583 (.cons ftn2_584 (.cons ftn1_609 (.cons ftn2_628 (.cons ftn2_646 (.cons ftb2_682 (.cons ftn3_713 (.cons ftn2_718 (.cons ftn1_811 (.cons ftn1_836 (.cons ftn3_857 (.cons ftn2_858 (.cons ftn1_917 (.cons ftn1_961 (.nil)))))))))))))))))))))))))))))))))))))))))))))))))))))))
set_option maxRecDepth 100000 in
theorem fenv3 : EnvOk F3 Tryz.prog := layer_env env3_ok
set_option maxRecDepth 100000 in
theorem fov3 : OvOk F3 Tryz.prog := layer_ov ov3_ok fenv2 fov2 rfl ftabs3
set_option maxRecDepth 100000 in
theorem ftn4_190 : ∀ q ∈ tn4_190, Fact E3 Tryz.prog 190 q := fact_tab fenv3 fov3 rfl ktn4_190
set_option maxRecDepth 100000 in
theorem ftn4_851 : ∀ q ∈ tn4_851, Fact E3 Tryz.prog 851 q := fact_tab fenv3 fov3 rfl ktn4_851
set_option maxRecDepth 100000 in
theorem ftn4_253 : ∀ q ∈ tn4_253, Fact E3 Tryz.prog 253 q := fact_tab fenv3 fov3 rfl ktn4_253
set_option maxRecDepth 100000 in
theorem ftb4_253 : ∀ q ∈ tb4_253, Fact E3 Tryz.prog 253 q := fact_app ftn4_253 ftn3_253
set_option maxRecDepth 100000 in
theorem ftn4_232 : ∀ q ∈ tn4_232, Fact E3 Tryz.prog 232 q := fact_tab fenv3 fov3 rfl ktn4_232
set_option maxRecDepth 100000 in
theorem ftn4_727 : ∀ q ∈ tn4_727, Fact E3 Tryz.prog 727 q := fact_tab fenv3 fov3 rfl ktn4_727
set_option maxRecDepth 100000 in
theorem ftn4_208 : ∀ q ∈ tn4_208, Fact E3 Tryz.prog 208 q := fact_tab fenv3 fov3 rfl ktn4_208
set_option maxRecDepth 100000 in
theorem ftb4_208 : ∀ q ∈ tb4_208, Fact E3 Tryz.prog 208 q := fact_app ftn4_208 ftn1_208
set_option maxRecDepth 100000 in
theorem ftn4_164 : ∀ q ∈ tn4_164, Fact E3 Tryz.prog 164 q := fact_tab fenv3 fov3 rfl ktn4_164
set_option maxRecDepth 100000 in
theorem ftb4_164 : ∀ q ∈ tb4_164, Fact E3 Tryz.prog 164 q := fact_app ftn4_164 ftn3_164
set_option maxRecDepth 100000 in
theorem ftn4_729 : ∀ q ∈ tn4_729, Fact E3 Tryz.prog 729 q := fact_tab fenv3 fov3 rfl ktn4_729
set_option maxRecDepth 100000 in
theorem ftn4_408 : ∀ q ∈ tn4_408, Fact E3 Tryz.prog 408 q := fact_tab fenv3 fov3 rfl ktn4_408
set_option maxRecDepth 100000 in
theorem ftn4_243 : ∀ q ∈ tn4_243, Fact E3 Tryz.prog 243 q := fact_tab fenv3 fov3 rfl ktn4_243
set_option maxRecDepth 100000 in
theorem ftn4_412 : ∀ q ∈ tn4_412, Fact E3 Tryz.prog 412 q := fact_tab fenv3 fov3 rfl ktn4_412
set_option maxRecDepth 100000 in
theorem ftabs4 : TabsOk E3 Tryz.prog tabs4 := .cons ftn3_6 (.cons ftn3_12 (.cons ftn2_13 (.cons ftn1_16 (.cons ftn2_19 (.cons ftn1_21 (.cons ftn2_22 (.cons ftn1_23 (.cons ftn1_30 (.cons ftn2_32 (.cons ftn1_40 (.cons ftn1_47 (.cons ftn1_49 (.cons ftn3_150 (.cons ftb4_164 (.cons ftb3_166 (.cons ftn1_176 (.cons ftn4_190 (.cons ftb4_208 (.cons ftn2_216 (.cons ftb3_224 (.cons ftn1_228 (.cons ftn1_229 (.cons ftn4_232 (.cons ftb2_235 (.cons ftn4_243 (.cons ftb4_253 (.cons ftn2_265 (.cons ftn3_267 (.cons ftn1_272 (.cons ftn1_276 (.cons ftn2_279 (.cons ftn2_280 (.cons ftn2_283 (.cons ftb3_310 (.cons ftn1_319 (.cons ftn2_383 (.cons ftb3_385 (.cons ftn1_404 (.cons ftn4_408 (.cons ftn3_409 (.cons ftn3_411 (.cons ftn4_412 (.cons ftn2_415 (.cons ftn1_418 (.cons ftn1_579 (.cons ftn1_583 (.cons ftn2_584 (.cons ftn1_609 (.cons ftn2_628 (.cons ftn2_646 (.cons ftb2_682 (.cons ftn3_713 (.cons ftn2_718 (.cons ftn4_727 (.cons ftn4_729 (.cons ftn1_811 (.cons ftn1_836 (.cons ftn4_851 (.cons ftn3_857 (.cons ftn2_858 (.cons ftn1_917 (.cons ftn1_961 (.nil)))))))))))))))))))))))))))))))))))))))))))))))))))))))))))))))
set_option maxRecDepth 100000 in
theorem fenv4 : EnvOk F4 Tryz.prog := layer_env env3_ok
set_option maxRecDepth 100000 in
theorem fov4 : OvOk F4 Tryz.prog := layer_ov ov3_ok fenv3 fov3 rfl ftabs4
set_option maxRecDepth 100000 in
theorem ftn5_187 : ∀ q ∈ tn5_187, Fact E3 Tryz.prog 187 q := fact_tab fenv4 fov4 rfl ktn5_187
set_option maxRecDepth 100000 in
theorem ftn5_505 : ∀ q ∈ tn5_505, Fact E3 Tryz.prog 505 q := fact_tab fenv4 fov4 rfl ktn5_505
set_option maxRecDepth 100000 in
theorem ftn5_710 : ∀ q ∈ tn5_710, Fact E3 Tryz.prog 710 q := fact_tab fenv4 fov4 rfl ktn5_710
set_option maxRecDepth 100000 in
theorem ftn5_532 : ∀ q ∈ tn5_532, Fact E3 Tryz.prog 532 q := fact_tab fenv4 fov4 rfl ktn5_532
set_option maxRecDepth 100000 in
theorem ftn5_161 : ∀ q ∈ tn5_161, Fact E3 Tryz.prog 161 q := fact_tab fenv4 fov4 rfl ktn5_161
set_option maxRecDepth 100000 in
theorem ftn5_272 : ∀ q ∈ tn5_272, Fact E3 Tryz.prog 272 q := fact_tab fenv4 fov4 rfl ktn5_272
set_option maxRecDepth 100000 in
theorem ftb5_272 : ∀ q ∈ tb5_272, Fact E3 Tryz.prog 272 q := fact_app ftn5_272 ftn1_272
set_option maxRecDepth 100000 in
theorem ftn5_407 : ∀ q ∈ tn5_407, Fact E3 Tryz.prog 407 q := fact_tab fenv4 fov4 rfl ktn5_407
set_option maxRecDepth 100000 in
theorem ftn5_229 : ∀ q ∈ tn5_229, Fact E3 Tryz.prog 229 q := fact_tab fenv4 fov4 rfl ktn5_229
set_option maxRecDepth 100000 in
theorem ftb5_229 : ∀ q ∈ tb5_229, Fact E3 Tryz.prog 229 q := fact_app ftn5_229 ftn1_229
set_option maxRecDepth 100000 in
theorem ftn5_173 : ∀ q ∈ tn5_173, Fact E3 Tryz.prog 173 q := fact_tab fenv4 fov4 rfl ktn5_173
set_option maxRecDepth 100000 in
theorem ftn5_280 : ∀ q ∈ tn5_280, Fact E3 Tryz.prog 280 q := fact_tab fenv4 fov4 rfl ktn5_280
set_option maxRecDepth 100000 in
theorem ftb5_280 : ∀ q ∈ tb5_280, Fact E3 Tryz.prog 280 q := fact_app ftn5_280 ftn2_280
set_option maxRecDepth 100000 in
theorem ftn5_549 : ∀ q ∈ tn5_549, Fact E3 Tryz.prog 549 q := fact_tab fenv4 fov4 rfl ktn5_549
set_option maxRecDepth 100000 in
theorem ftabs5 : TabsOk E3 Tryz.prog tabs5 := .cons ftn3_6 (.cons ftn3_12 (.cons ftn2_13 (.cons ftn1_16 (.cons ftn2_19 (.cons ftn1_21 (.cons ftn2_22 (.cons ftn1_23 (.cons ftn1_30 (.cons ftn2_32 (.cons ftn1_40 (.cons ftn1_47 (.cons ftn1_49 (.cons ftn3_150 (.cons ftn5_161 (.cons ftb4_164 (.cons ftb3_166 (.cons ftn5_173 (.cons ftn1_176 (.cons ftn5_187 (.cons ftn4_190 (.cons ftb4_208 (.cons ftn2_216 (.cons ftb3_224 (.cons ftn1_228 (.cons ftb5_229 (.cons ftn4_232 (.cons ftb2_235 (.cons ftn4_243 (.cons ftb4_253 (.cons ftn2_265 (.cons ftn3_267 (.cons ftb5_272 (.cons ftn1_276 (.cons ftn2_279 (.cons ftb5_280 (.cons ftn2_283 (.cons ftb3_310 (.cons ftn1_319 (.cons ftn2_383 (.cons ftb3_385 (.cons ftn1_404 (.cons ftn5_407 (.cons ftn4_408 (.cons ftn3_409 (.cons ftn3_411 (.cons ftn4_412 (.cons ftn2_415 (.cons ftn1_418 (.cons ftn5_505 (.cons ftn5_532 (.cons ftn5_549 (.cons ftn1_579 (.cons ftn1_583 (.cons ftn2_584 (.cons ftn1_609 (.cons ftn2_628 (.cons ftn2_646 (.cons ftb2_682 (.cons ftn5_710 (.cons ftn3_713 (.cons ftn2_718 (.cons ftn4_727 (.cons ftn4_729 (.cons ftn1_811 (.cons ftn1_836 (.cons ftn4_851 (.cons ftn3_857 (.cons ftn2_858 (.cons ftn1_917 (.cons ftn1_961 (.nil)))))))))))))))))))))))))))))))))))))))))))))))))))))))))))))))))))))))
set_option maxRecDepth 100000 in
theorem fenv5 : EnvOk F5 Tryz.prog := layer_env env3_ok
set_option maxRecDepth 100000 in
theorem fov5 : OvOk F5 Tryz.prog := layer_ov ov3_ok fenv4 fov4 rfl ftabs5
set_option maxRecDepth 100000 in
theorem ftn6_125 : ∀ q ∈ tn6_125, Fact E3 Tryz.prog 125 q := fact_tab fenv5 fov5 rfl ktn6_125
set_option maxRecDepth 100000 in
theorem ftn6_323 : ∀ q ∈ tn6_323, Fact E3 Tryz.prog 323 q := fact_tab fenv5 fov5 rfl ktn6_323
set_option maxRecDepth 100000 in
theorem ftn6_521 : ∀ q ∈ tn6_521, Fact E3 Tryz.prog 521 q := fact_tab fenv5 fov5 rfl ktn6_521
set_option maxRecDepth 100000 in
theorem ftn6_216 : ∀ q ∈ tn6_216, Fact E3 Tryz.prog 216 q := fact_tab fenv5 fov5 rfl ktn6_216
set_option maxRecDepth 100000 in
theorem ftb6_216 : ∀ q ∈ tb6_216, Fact E3 Tryz.prog 216 q := fact_app ftn6_216 ftn2_216
set_option maxRecDepth 100000 in
theorem ftn6_280 : ∀ q ∈ tn6_280, Fact E3 Tryz.prog 280 q := fact_tab fenv5 fov5 rfl ktn6_280
set_option maxRecDepth 100000 in
theorem ftb6_280 : ∀ q ∈ tb6_280, Fact E3 Tryz.prog 280 q := fact_app ftn6_280 ftb5_280
set_option maxRecDepth 100000 in
theorem ftn6_220 : ∀ q ∈ tn6_220, Fact E3 Tryz.prog 220 q := fact_tab fenv5 fov5 rfl ktn6_220
set_option maxRecDepth 100000 in
theorem ftn6_168 : ∀ q ∈ tn6_168, Fact E3 Tryz.prog 168 q := fact_tab fenv5 fov5 rfl ktn6_168
set_option maxRecDepth 100000 in
theorem ftabs6 : TabsOk E3 Tryz.prog tabs6 := .cons ftn3_6 (.cons ftn3_12 (.cons ftn2_13 (.cons ftn1_16 (.cons ftn2_19 (.cons ftn1_21 (.cons ftn2_22 (.cons ftn1_23 (.cons ftn1_30 (.cons ftn2_32 (.cons ftn1_40 (.cons ftn1_47 (.cons ftn1_49 (.cons ftn6_125 (.cons ftn3_150 (.cons ftn5_161 (.cons ftb4_164 (.cons ftb3_166 (.cons ftn6_168 (.cons ftn5_173 (.cons ftn1_176 (.cons ftn5_187 (.cons ftn4_190 (.cons ftb4_208 (.cons ftb6_216 (.cons ftn6_220 (.cons ftb3_224 (.cons ftn1_228 (.cons ftb5_229 (.cons ftn4_232 (.cons ftb2_235 (.cons ftn4_243 (.cons ftb4_253 (.cons ftn2_265 (.cons ftn3_267 (.cons ftb5_272 (.cons ftn1_276 (.cons ftn2_279 (.cons ftb6_280 (.cons ftn2_283 (.cons ftb3_310 (.cons ftn1_319 (.cons ftn6_323 (.cons ftn2_383 (.cons ftb3_385 (.cons ftn1_404 (.cons ftn5_407 (.cons ftn4_408 (.cons ftn3_409 (.cons ftn3_411 (.cons ftn4_412 (.cons ftn2_415 (.cons ftn1_418 (.cons ftn5_505 (.cons ftn6_521 (.cons ftn5_532 (.cons ftn5_549 (.cons ftn1_579 (.cons ftn1_583 (.cons ftn2_584 (.cons ftn1_609 (.cons ftn2_628 (.cons ftn2_646 (.cons ftb2_682 (.cons ftn5_710 (.cons ftn3_713 (.cons ftn2_718 (.cons ftn4_727 (.cons ftn4_729 (.cons ftn1_811 (.cons ftn1_836 (.cons ftn4_851 (.cons ftn3_857 (.cons ftn2_858 (.cons ftn1_917 (.cons ftn1_961 (.nil))))))))))))))))))))))))))))))))))))))))))))))))))))))))))))))))))))))))))))
set_option maxRecDepth 100000 in
theorem fenv6 : EnvOk F6 Tryz.prog := layer_env env3_ok
set_option maxRecDepth 100000 in
theorem fov6 : OvOk F6 Tryz.prog := layer_ov ov3_ok fenv5 fov5 rfl ftabs6
set_option maxRecDepth 100000 in
theorem ftn7_46 : ∀ q ∈ tn7_46, Fact E3 Tryz.prog 46 q := fact_tab fenv6 fov6 rfl ktn7_46
set_option maxRecDepth 100000 in
theorem ftn7_390 : ∀ q ∈ tn7_390, Fact E3 Tryz.prog 390 q := fact_tab fenv6 fov6 rfl ktn7_390
set_option maxRecDepth 100000 in
theorem ftn7_150 : ∀ q ∈ tn7_150, Fact E3 Tryz.prog 150 q := fact_tab fenv6 fov6 rfl ktn7_150
set_option maxRecDepth 100000 in
theorem ftb7_150 : ∀ q ∈ tb7_150, Fact E3 Tryz.prog 150 q := fact_app ftn7_150 ftn3_150
set_option maxRecDepth 100000 in
theorem ftn7_409 : ∀ q ∈ tn7_409, Fact E3 Tryz.prog 409 q := fact_tab fenv6 fov6 rfl ktn7_409
set_option maxRecDepth 100000 in
theorem ftb7_409 : ∀ q ∈ tb7_409, Fact E3 Tryz.prog 409 q := fact_app ftn7_409 ftn3_409
set_option maxRecDepth 100000 in
theorem ftn7_151 : ∀ q ∈ tn7_151, Fact E3 Tryz.prog 151 q := fact_tab fenv6 fov6 rfl ktn7_151
set_option maxRecDepth 100000 in
theorem ftn7_220 : ∀ q ∈ tn7_220, Fact E3 Tryz.prog 220 q := fact_tab fenv6 fov6 rfl ktn7_220
set_option maxRecDepth 100000 in
theorem ftb7_220 : ∀ q ∈ tb7_220, Fact E3 Tryz.prog 220 q := fact_app ftn7_220 ftn6_220
set_option maxRecDepth 100000 in
theorem ftabs7 : TabsOk E3 Tryz.prog tabs7 := .cons ftn3_6 (.cons ftn3_12 (.cons ftn2_13 (.cons ftn1_16 (.cons ftn2_19 (.cons ftn1_21 (.cons ftn2_22 (.cons ftn1_23 (.cons ftn1_30 (.cons ftn2_32 (.cons ftn1_40 (.cons ftn7_46 (.cons ftn1_47 (.cons ftn1_49 (.cons ftn6_125 (.cons ftb7_150 (.cons ftn7_151 (.cons ftn5_161 (.cons ftb4_164 (.cons ftb3_166 (.cons ftn6_168 (.cons ftn5_173 (.cons ftn1_176 (.cons ftn5_187 (.cons ftn4_190 (.cons ftb4_208 (.cons ftb6_216 (.cons ftb7_220 (.cons ftb3_224 (.cons ftn1_228 (.cons ftb5_229 (.cons ftn4_232 (.cons ftb2_235 (.cons ftn4_243 (.cons ftb4_253 (.cons ftn2_265 (.cons ftn3_267 (.cons ftb5_272 (.cons ftn1_276 (.cons ftn2_279 (.cons ftb6_280 (.cons ftn2_283 (.cons ftb3_310 (.cons ftn1_319 (.cons ftn6_323 (.cons ftn2_383 (.cons ftb3_385 (.cons ftn7_390 (.cons ftn1_404 (.cons ftn5_407 (.cons ftn4_408 (.cons ftb7_409 (.cons ftn3_411 (.cons ftn4_412 (.cons ftn2_415 (.cons ftn1_418 (.cons ftn5_505 (.cons ftn6_521 (.cons ftn5_532 (.cons ftn5_549 (.cons ftn1_579 (.cons ftn1_583 (.cons ftn2_584 (.cons ftn1_609 (.cons ftn2_628 (.cons ftn2_646 (.cons ftb2_682 (.cons ftn5_710 (.cons ftn3_713 (.cons ftn2_718 (.cons ftn4_727 (.cons ftn4_729 (.cons ftn1_811 (.cons ftn1_836 (.cons ftn4_851 (.cons ftn3_857 (.cons ftn2_858 (.cons ftn1_917 (.cons ftn1_961 (.nil)))))))))))))))))))))))))))))))))))))))))))))))))))))))))))))))))))))))))))))))
set_option maxRecDepth 100000 in
theorem fenv7 : EnvOk F7 Tryz.prog := layer_env env3_ok
set_option maxRecDepth 100000 in
theorem fov7 : OvOk F7 Tryz.prog := layer_ov ov3_ok fenv6 fov6 rfl ftabs7
set_option maxRecDepth 100000 in
theorem ftn8_31 : ∀ q ∈ tn8_31, Fact E3 Tryz.prog 31 q := fact_tab fenv7 fov7 rfl ktn8_31
set_option maxRecDepth 100000 in
theorem ftn8_209 : ∀ q ∈ tn8_209, Fact E3 Tryz.prog 209 q := fact_tab fenv7 fov7 rfl ktn8_209
set_option maxRecDepth 100000 in
theorem ftn8_268 : ∀ q ∈ tn8_268, Fact E3 Tryz.prog 268 q := fact_tab fenv7 fov7 rfl ktn8_268
set_option maxRecDepth 100000 in
theorem ftn8_412 : ∀ q ∈ tn8_412, Fact E3 Tryz.prog 412 q := fact_tab fenv7 fov7 rfl ktn8_412
set_option maxRecDepth 100000 in
theorem ftb8_412 : ∀ q ∈ tb8_412, Fact E3 Tryz.prog 412 q := fact_app ftn8_412 ftn4_412
set_option maxRecDepth 100000 in
theorem ftn8_152 : ∀ q ∈ tn8_152, Fact E3 Tryz.prog 152 q := fact_tab fenv7 fov7 rfl ktn8_152
set_option maxRecDepth 100000 in
theorem ftn8_236 : ∀ q ∈ tn8_236, Fact E3 Tryz.prog 236 q := fact_tab fenv7 fov7 rfl ktn8_236
set_option maxRecDepth 100000 in
theorem ftn8_151 : ∀ q ∈ tn8_151, Fact E3 Tryz.prog 151 q := fact_tab fenv7 fov7 rfl ktn8_151
set_option maxRecDepth 100000 in
theorem ftb8_151 : ∀ q ∈ tb8_151, Fact E3 Tryz.prog 151 q := fact_app ftn8_151 ftn7_151
set_option maxRecDepth 100000 in
theorem ftabs8 : TabsOk E3 Tryz.prog tabs8 := .cons ftn3_6 (.cons ftn3_12 (.cons ftn2_13 (.cons ftn1_16 (.cons ftn2_19 (.cons ftn1_21 (.cons ftn2_22 (.cons ftn1_23 (.cons ftn1_30 (.cons ftn8_31 (.cons ftn2_32 (.cons ftn1_40 (.cons ftn7_46 (.cons ftn1_47 (.cons ftn1_49 (.cons ftn6_125 (.cons ftb7_150 (.cons ftb8_151 (.cons ftn8_152 (.cons ftn5_161 (.cons ftb4_164 (.cons ftb3_166 (.cons ftn6_168 (.cons ftn5_173 (.cons ftn1_176 (.cons ftn5_187 (.cons ftn4_190 (.cons ftb4_208 (.cons ftn8_209 (.cons ftb6_216 (.cons ftb7_220 (.cons ftb3_224 (.cons ftn1_228 (.cons ftb5_229 (.cons ftn4_232 (.cons ftb2_235 (.cons ftn8_236 (.cons ftn4_243 (.cons ftb4_253 (.cons ftn2_265 (.cons ftn3_267 (.cons ftn8_268 (.cons ftb5_272 (.cons ftn1_276 (.cons ftn2_279 (.cons ftb6_280 (.cons ftn2_283 (.cons ftb3_310 (.cons ftn1_319 (.cons ftn6_323 (.cons ftn2_383 (.cons ftb3_385 (.cons ftn7_390 (.cons ftn1_404 (.cons ftn5_407 (.cons ftn4_408 (.cons ftb7_409 (.cons ftn3_411 (.cons ftb8_412 (.cons ftn2_415 (.cons ftn1_418 (.cons ftn5_505 (.cons ftn6_521 (.cons ftn5_532 (.cons ftn5_549 (.cons ftn1_579 (.cons ftn1_583 (.cons ftn2_584 (.cons ftn1_609 (.cons ftn2_628 (.cons ftn2_646 (.cons ftb2_682 (.cons ftn5_710 (.cons ftn3_713 (.cons ftn2_718 (.cons ftn4_727 (.cons ftn4_729 (.cons ftn1_811 (.cons ftn1_836 (.cons ftn4_851 (.cons ftn3_857 (.cons ftn2_858 (.cons ftn1_917 (.cons ftn1_961 (.nil))))))))))))))))))))))))))))))))))))))))))))))))))))))))))))))))))))))))))))))))))))
set_option maxRecDepth 100000 in
theorem fenv8 : EnvOk F8 Tryz.prog := layer_env env3_ok
set_option maxRecDepth 100000 in
theorem fov8 : OvOk F8 Tryz.prog := layer_ov ov3_ok fenv7 fov7 rfl ftabs8
set_option maxRecDepth 100000 in
theorem ftn9_233 : ∀ q ∈ tn9_233, Fact E3 Tryz.prog 233 q := fact_tab fenv8 fov8 rfl ktn9_233
set_option maxRecDepth 100000 in
theorem ftn9_209 : ∀ q ∈ tn9_209, Fact E3 Tryz.prog 209 q := fact_tab fenv8 fov8 rfl ktn9_209
set_option maxRecDepth 100000 in
theorem ftb9_209 : ∀ q ∈ tb9_209, Fact E3 Tryz.prog 209 q := fact_app ftn9_209 ftn8_209
set_option maxRecDepth 100000 in
theorem ftn9_280 : ∀ q ∈ tn9_280, Fact E3 Tryz.prog 280 q := fact_tab fenv8 fov8 rfl ktn9_280
set_option maxRecDepth 100000 in
theorem ftb9_280 : ∀ q ∈ tb9_280, Fact E3 Tryz.prog 280 q := fact_app ftn9_280 ftb6_280
set_option maxRecDepth 100000 in
theorem ftn9_167 : ∀ q ∈ tn9_167, Fact E3 Tryz.prog 167 q := fact_tab fenv8 fov8 rfl ktn9_167
set_option maxRecDepth 100000 in
theorem ftn9_79 : ∀ q ∈ tn9_79, Fact E3 Tryz.prog 79 q := fact_tab fenv8 fov8 rfl ktn9_79
set_option maxRecDepth 100000 in
theorem ftn9_20 : ∀ q ∈ tn9_20, Fact E3 Tryz.prog 20 q := fact_tab fenv8 fov8 rfl ktn9_20
set_option maxRecDepth 100000 in
theorem ftabs9 : TabsOk E3 Tryz.prog tabs9 := .cons ftn3_6 (.cons ftn3_12 (.cons ftn2_13 (.cons ftn1_16 (.cons ftn2_19 (.cons ftn9_20 (.cons ftn1_21 (.cons ftn2_22 (.cons ftn1_23 (.cons ftn1_30 (.cons ftn8_31 (.cons ftn2_32 (.cons ftn1_40 (.cons ftn7_46 (.cons ftn1_47 (.cons ftn1_49 (.cons ftn9_79 (.cons ftn6_125 (.cons ftb7_150 (.cons ftb8_151 (.cons ftn8_152 (.cons ftn5_161 (.cons ftb4_164 (.cons ftb3_166 (.cons ftn9_167 (.cons ftn6_168 (.cons ftn5_173 (.cons ftn1_176 (.cons ftn5_187 (.cons ftn4_190 (.cons ftb4_208 (.cons ftb9_209 (.cons ftb6_216 (.cons ftb7_220 (.cons ftb3_224 (.cons ftn1_228 (.cons ftb5_229 (.cons ftn4_232 (.cons ftn9_233 (.cons ftb2_235 (.cons ftn8_236 (.cons ftn4_243 (.cons ftb4_253 (.cons ftn2_265 (.cons ftn3_267 (.cons ftn8_268 (.cons ftb5_272 (.cons ftn1_276 (.cons ftn2_279 (.cons ftb9_280 (.cons ftn2_283 (.cons ftb3_310 (.cons ftn1_319 (.cons ftn6_323 (.cons ftn2_383 (.cons ftb3_385 (.cons ftn7_390 (.cons ftn1_404 (.cons ftn5_407 (.cons ftn4_408 (.cons ftb7_409 (.cons ftn3_411 (.cons ftb8_412 (.cons ftn2_415 (.cons ftn1_418 (.cons ftn5_505 (.cons ftn6_521 (.cons ftn5_532 (.cons ftn5_549 (.cons ftn1_579 (.cons ftn1_583 (.cons ftn2_584 (.cons ftn1_609 (.cons ftn2_628 (.cons ftn2_646 (.cons ftb2_682 (.cons ftn5_710 (.cons ftn3_713 (.cons ftn2_718 (.cons ftn4_727 (.cons ftn4_729 (.cons ftn1_811 (.cons ftn1_836 (.cons ftn4_851 (.cons ftn3_857 (.cons ftn2_858 (.cons ftn1_917 (.cons ftn1_961 (.nil))))))))))))))))))))))))))))))))))))))))))))))))))))))))))))))))))))))))))))))))))))))))
set_option maxRecDepth 100000 in
theorem fenv9 : EnvOk F9 Tryz.prog := layer_env env3_ok
set_option maxRecDepth 100000 in
theorem fov9 : OvOk F9 Tryz.prog := layer_ov ov3_ok fenv8 fov8 rfl ftabs9
set_option maxRecDepth 100000 in
theorem ftn10_207 : ∀ q ∈ tn10_207, Fact E3 Tryz.prog 207 q := fact_tab fenv9 fov9 rfl ktn10_207
set_option maxRecDepth 100000 in
theorem ftn10_163 : ∀ q ∈ tn10_163, Fact E3 Tryz.prog 163 q := fact_tab fenv9 fov9 rfl ktn10_163
set_option maxRecDepth 100000 in
theorem ftn10_220 : ∀ q ∈ tn10_220, Fact E3 Tryz.prog 220 q := fact_tab fenv9 fov9 rfl ktn10_220
set_option maxRecDepth 100000 in
theorem ftb10_220 : ∀ q ∈ tb10_220, Fact E3 Tryz.prog 220 q := fact_app ftn10_220 ftb7_220
set_option maxRecDepth 100000 in
theorem ftn10_242 : ∀ q ∈ tn10_242, Fact E3 Tryz.prog 242 q := fact_tab fenv9 fov9 rfl ktn10_242
set_option maxRecDepth 100000 in
theorem ftn10_20 : ∀ q ∈ tn10_20, Fact E3 Tryz.prog 20 q := fact_tab fenv9 fov9 rfl ktn10_20
set_option maxRecDepth 100000 in
theorem ftb10_20 : ∀ q ∈ tb10_20, Fact E3 Tryz.prog 20 q := fact_app ftn10_20 ftn9_20
set_option maxRecDepth 100000 in
theorem ftn10_147 : ∀ q ∈ tn10_147, Fact E3 Tryz.prog 147 q := fact_tab fenv9 fov9 rfl ktn10_147
set_option maxRecDepth 100000 in
theorem ftn10_7 : ∀ q ∈ tn10_7, Fact E3 Tryz.prog 7 q := fact_tab fenv9 fov9 rfl ktn10_7
set_option maxRecDepth 100000 in
theorem ftabs10 : TabsOk E3 Tryz.prog tabs10 := .cons ftn3_6 (.cons ftn10_7 (.cons ftn3_12 (.cons ftn2_13 (.cons ftn1_16 (.cons ftn2_19 (.cons ftb10_20 (.cons ftn1_21 (.cons ftn2_22 (.cons ftn1_23 (.cons ftn1_30 (.cons ftn8_31 (.cons ftn2_32 (.cons ftn1_40 (.cons ftn7_46 (.cons ftn1_47 (.cons ftn1_49 (.cons ftn9_79 (.cons ftn6_125 (.cons ftn10_147 (.cons ftb7_150 (.cons ftb8_151 (.cons ftn8_152 (.cons ftn5_161 (.cons ftn10_163 (.cons ftb4_164 (.cons ftb3_166 (.cons ftn9_167 (.cons ftn6_168 (.cons ftn5_173 (.cons ftn1_176 (.cons ftn5_187 (.cons ftn4_190 (.cons ftn10_207 (.cons ftb4_208 (.cons ftb9_209 (.cons ftb6_216 (.cons ftb10_220 (.cons ftb3_224 (.cons ftn1_228 (.cons ftb5_229 (.cons ftn4_232 (.cons ftn9_233 (.cons ftb2_235 (.cons ftn8_236 (.cons ftn10_242 (.cons ftn4_243 (.cons ftb4_253 (.cons ftn2_265 (.cons ftn3_267 (.cons ftn8_268 (.cons ftb5_272 (.cons ftn1_276 (.cons ftn2_279 (.cons ftb9_280 (.cons ftn2_283 (.cons ftb3_310 (.cons ftn1_319 (.cons ftn6_323 (.cons ftn2_383 (.cons ftb3_385 (.cons ftn7_390 (.cons ftn1_404 (.cons ftn5_407 (.cons ftn4_408 (.cons ftb7_409 (.cons ftn3_411 (.cons ftb8_412 (.cons ftn2_415 (.cons ftn1_418 (.cons ftn5_505 (.cons ftn6_521 (.cons ftn5_532 (.cons ftn5_549 (.cons ftn1_579 (.cons ftn1_583 (.cons ftn2_584 (.cons ftn1_609 (.cons ftn2_628 (.cons ftn2_646 (.cons ftb2_682 (.cons ftn5_710 (.cons ftn3_713 (.cons ftn2_718 (.cons ftn4_727 (.cons ftn4_729 (.cons ftn1_811 (.cons ftn1_836 (.cons ftn4_851 (.cons ftn3_857 (.cons ftn2_858 (.cons ftn1_917 (.cons ftn1_961 (.nil)))))))))))))))))))))))))))))))))))))))))))))))))))))))))))))))))))))))))))))))))))))))))))))
set_option maxRecDepth 100000 in
theorem fenv10 : EnvOk F10 Tryz.prog := layer_env env3_ok
set_option maxRecDepth 100000 in
theorem fov10 : OvOk F10 Tryz.prog := layer_ov ov3_ok fenv9 fov9 rfl ftabs10
set_option maxRecDepth 100000 in
theorem ftn11_143 : ∀ q ∈ tn11_143, Fact E3 Tryz.prog 143 q := fact_tab fenv10 fov10 rfl ktn11_143
set_option maxRecDepth 100000 in
theorem ftn11_211 : ∀ q ∈ tn11_211, Fact E3 Tryz.prog 211 q := fact_tab fenv10 fov10 rfl ktn11_211
set_option maxRecDepth 100000 in
theorem ftn11_151 : ∀ q ∈ tn11_151, Fact E3 Tryz.prog 151 q := fact_tab fenv10 fov10 rfl ktn11_151
set_option maxRecDepth 100000 in
theorem ftb11_151 : ∀ q ∈ tb11_151, Fact E3 Tryz.prog 151 q := fact_app ftn11_151 ftb8_151
set_option maxRecDepth 100000 in
theorem ftn11_7 : ∀ q ∈ tn11_7, Fact E3 Tryz.prog 7 q := fact_tab fenv10 fov10 rfl ktn11_7
set_option maxRecDepth 100000 in
theorem ftb11_7 : ∀ q ∈ tb11_7, Fact E3 Tryz.prog 7 q := fact_app ftn11_7 ftn10_7
set_option maxRecDepth 100000 in
theorem ftn11_20 : ∀ q ∈ tn11_20, Fact E3 Tryz.prog 20 q := fact_tab fenv10 fov10 rfl ktn11_20
set_option maxRecDepth 100000 in
theorem ftb11_20 : ∀ q ∈ tb11_20, Fact E3 Tryz.prog 20 q := fact_app ftn11_20 ftb10_20
set_option maxRecDepth 100000 in
theorem ftabs11 : TabsOk E3 Tryz.prog tabs11 := .cons ftn3_6 (.cons ftb11_7 (.cons ftn3_12 (.cons ftn2_13 (.cons ftn1_16 (.cons ftn2_19 (.cons ftb11_20 (.cons ftn1_21 (.cons ftn2_22 (.cons ftn1_23 (.cons ftn1_30 (.cons ftn8_31 (.cons ftn2_32 (.cons ftn1_40 (.cons ftn7_46 (.cons ftn1_47 (.cons ftn1_49 (.cons ftn9_79 (.cons ftn6_125 (.cons ftn11_143 (.cons ftn10_147 (.cons ftb7_150 (.cons ftb11_151 (.cons ftn8_152 (.cons ftn5_161 (.cons ftn10_163 (.cons ftb4_164 (.cons ftb3_166 (.cons ftn9_167 (.cons ftn6_168 (.cons ftn5_173 (.cons ftn1_176 (.cons ftn5_187 (.cons ftn4_190 (.cons ftn10_207 (.cons ftb4_208 (.cons ftb9_209 (.cons ftn11_211 (.cons ftb6_216 (.cons ftb10_220 (.cons ftb3_224 (.cons ftn1_228 (.cons ftb5_229 (.cons ftn4_232 (.cons ftn9_233 (.cons ftb2_235 (.cons ftn8_236 (.cons ftn10_242 (.cons ftn4_243 (.cons ftb4_253 (.cons ftn2_265 (.cons ftn3_267 (.cons ftn8_268 (.cons ftb5_272 (.cons ftn1_276 (.cons ftn2_279 (.cons ftb9_280 (.cons ftn2_283 (.cons ftb3_310 (.cons ftn1_319 (.cons ftn6_323 (.cons ftn2_383 (.cons ftb3_385 (.cons ftn7_390 (.cons ftn1_404 (.cons ftn5_407 (.cons ftn4_408 (.cons ftb7_409 (.cons ftn3_411 (.cons ftb8_412 (.cons ftn2_415 (.cons ftn1_418 (.cons ftn5_505 (.cons ftn6_521 (.cons ftn5_532 (.cons ftn5_549 (.cons ftn1_579 (.cons ftn1_583 (.cons ftn2_584 (.cons ftn1_609 (.cons ftn2_628 (.cons ftn2_646 (.cons ftb2_682 (.cons ftn5_710 (.cons ftn3_713 (.cons ftn2_718 (.cons ftn4_727 (.cons ftn4_729 (.cons ftn1_811 (.cons ftn1_836 (.cons ftn4_851 (.cons ftn3_857 (.cons ftn2_858 (.cons ftn1_917 (.cons ftn1_961 (.nil)))))))))))))))))))))))))))))))))))))))))))))))))))))))))))))))))))))))))))))))))))))))))))))))
set_option maxRecDepth 100000 in
theorem fenv11 : EnvOk F11 Tryz.prog := layer_env env3_ok
set_option maxRecDepth 100000 in
theorem fov11 : OvOk F11 Tryz.prog := layer_ov ov3_ok fenv10 fov10 rfl ftabs11
set_option maxRecDepth 100000 in
theorem ftn12_20 : ∀ q ∈ tn12_20, Fact E3 Tryz.prog 20 q := fact_tab fenv11 fov11 rfl ktn12_20
set_option maxRecDepth 100000 in
theorem ftb12_20 : ∀ q ∈ tb12_20, Fact E3 Tryz.prog 20 q := fact_app ftn12_20 ftb11_20
set_option maxRecDepth 100000 in
theorem ftn12_144 : ∀ q ∈ tn12_144, Fact E3 Tryz.prog 144 q := fact_tab fenv11 fov11 rfl ktn12_144
set_option maxRecDepth 100000 in
theorem ftn12_79 : ∀ q ∈ tn12_79, Fact E3 Tryz.prog 79 q := fact_tab fenv11 fov11 rfl ktn12_79
set_option maxRecDepth 100000 in
theorem ftb12_79 : ∀ q ∈ tb12_79, Fact E3 Tryz.prog 79 q := fact_app ftn12_79 ftn9_79
set_option maxRecDepth 100000 in
theorem ftn12_7 : ∀ q ∈ tn12_7, Fact E3 Tryz.prog 7 q := fact_tab fenv11 fov11 rfl ktn12_7
set_option maxRecDepth 100000 in
theorem ftb12_7 : ∀ q ∈ tb12_7, Fact E3 Tryz.prog 7 q := fact_app ftn12_7 ftb11_7
set_option maxRecDepth 100000 in
theorem ftabs12 : TabsOk E3 Tryz.prog tabs12 := .cons ftn3_6 (.cons ftb12_7 (.cons ftn3_12 (.cons ftn2_13 (.cons ftn1_16 (.cons ftn2_19 (.cons ftb12_20 (.cons ftn1_21 (.cons ftn2_22 (.cons ftn1_23 (.cons ftn1_30 (.cons ftn8_31 (.cons ftn2_32 (.cons ftn1_40 (.cons ftn7_46 (.cons ftn1_47 (.cons ftn1_49 (.cons ftb12_79 (.cons ftn6_125 (.cons ftn11_143 (.cons ftn12_144 (.cons ftn10_147 (.cons ftb7_150 (.cons ftb11_151 (.cons ftn8_152 (.cons ftn5_161 (.cons ftn10_163 (.cons ftb4_164 (.cons ftb3_166 (.cons ftn9_167 (.cons ftn6_168 (.cons ftn5_173 (.cons ftn1_176 (.cons ftn5_187 (.cons ftn4_190 (.cons ftn10_207 (.cons ftb4_208 (.cons ftb9_209 (.cons ftn11_211 (.cons ftb6_216 (.cons ftb10_220 (.cons ftb3_224 (.cons ftn1_228 (.cons ftb5_229 (.cons ftn4_232 (.cons ftn9_233 (.cons ftb2_235 (.cons ftn8_236 (.cons ftn10_242 (.cons ftn4_243 (.cons ftb4_253 (.cons ftn2_265 (.cons ftn3_267 (.cons ftn8_268 (.cons ftb5_272 (.cons ftn1_276 (.cons ftn2_279 (.cons ftb9_280 (.cons ftn2_283 (.cons ftb3_310 (.cons ftn1_319 (.cons ftn6_323 (.cons ftn2_383 (.cons ftb3_385 (.cons ftn7_390 (.cons ftn1_404 (.cons ftn5_407 (.cons ftn4_408 (.cons ftb7_409 (.cons ftn3_411 (.cons ftb8_412 (.cons ftn2_415 (.cons ftn1_418 (.cons ftn5_505 (.cons ftn6_521 (.cons ftn5_532 (.cons ftn5_549 (.cons ftn1_579 (.cons ftn1_583 (.cons ftn2_584 (.cons ftn1_609 (.cons ftn2_628 (.cons ftn2_646 (.cons ftb2_682 (.cons ftn5_710 (.cons ftn3_713 (.cons ftn2_718 (.cons ftn4_727 (.cons ftn4_729 (.cons ftn1_811 (.cons ftn1_836 (.cons ftn4_851 (.cons ftn3_857 (.cons ftn2_858 (.cons ftn1_917 (.cons ftn1_961 (.nil))))))))))))))))))))))))))))))))))))))))))))))))))))))))))))))))))))))))))))))))))))))))))))))))
set_option maxRecDepth 100000 in
theorem fenv12 : EnvOk F12 Tryz.prog := layer_env env3_ok
set_option maxRecDepth 100000 in
theorem fov12 : OvOk F12 Tryz.prog := layer_ov ov3_ok fenv11 fov11 rfl ftabs12
set_option maxRecDepth 100000 in
theorem ftn13_7 : ∀ q ∈ tn13_7, Fact E3 Tryz.prog 7 q := fact_tab fenv12 fov12 rfl ktn13_7
set_option maxRecDepth 100000 in
theorem ftb13_7 : ∀ q ∈ tb13_7, Fact E3 Tryz.prog 7 q := fact_app ftn13_7 ftb12_7
set_option maxRecDepth 100000 in
theorem ftn13_20 : ∀ q ∈ tn13_20, Fact E3 Tryz.prog 20 q := fact_tab fenv12 fov12 rfl ktn13_20
set_option maxRecDepth 100000 in
theorem ftb13_20 : ∀ q ∈ tb13_20, Fact E3 Tryz.prog 20 q := fact_app ftn13_20 ftb12_20
set_option maxRecDepth 100000 in
theorem ftabs13 : TabsOk E3 Tryz.prog tabs13 := .cons ftn3_6 (.cons ftb13_7 (.cons ftn3_12 (.cons ftn2_13 (.cons ftn1_16 (.cons ftn2_19 (.cons ftb13_20 (.cons ftn1_21 (.cons ftn2_22 (.cons ftn1_23 (.cons ftn1_30 (.cons ftn8_31 (.cons ftn2_32 (.cons ftn1_40 (.cons ftn7_46 (.cons ftn1_47 (.cons ftn1_49 (.cons ftb12_79 (.cons ftn6_125 (.cons ftn11_143 (.cons ftn12_144 (.cons ftn10_147 (.cons ftb7_150 (.cons ftb11_151 (.cons ftn8_152 (.cons ftn5_161 (.cons ftn10_163 (.cons ftb4_164 (.cons ftb3_166 (.cons ftn9_167 (.cons ftn6_168 (.cons ftn5_173 (.cons ftn1_176 (.cons ftn5_187 (.cons ftn4_190 (.cons ftn10_207 (.cons ftb4_208 (.cons ftb9_209 (.cons ftn11_211 (.cons ftb6_216 (.cons ftb10_220 (.cons ftb3_224 (.cons ftn1_228 (.cons ftb5_229 (.cons ftn4_232 (.cons ftn9_233 (.cons ftb2_235 (.cons ftn8_236 (.cons ftn10_242 (.cons ftn4_243 (.cons ftb4_253 (.cons ftn2_265 (.cons ftn3_267 (.cons ftn8_268 (.cons ftb5_272 (.cons ftn1_276 (.cons ftn2_279 (.cons ftb9_280 (.cons ftn2_283 (.cons ftb3_310 (.cons ftn1_319 (.cons ftn6_323 (.cons ftn2_383 (.cons ftb3_385 (.cons ftn7_390 (.cons ftn1_404 (.cons ftn5_407 (.cons ftn4_408 (.cons ftb7_409 (.cons ftn3_411 (.cons ftb8_412 (.cons ftn2_415 (.cons ftn1_418 (.cons ftn5_505 (.cons ftn6_521 (.cons ftn5_532 (.cons ftn5_549 (.cons ftn1_579 (.cons ftn1_583 (.cons ftn2_584 (.cons ftn1_609 (.cons ftn2_628 (.cons ftn2_646 (.cons ftb2_682 (.cons ftn5_710 (.cons ftn3_713 (.cons ftn2_718 (.cons ftn4_727 (.cons ftn4_729 (.cons ftn1_811 (.cons ftn1_836 (.cons ftn4_851 (.cons ftn3_857 (.cons ftn2_858 (.cons ftn1_917 (.cons ftn1_961 (.nil))))))))))))))))))))))))))))))))))))))))))))))))))))))))))))))))))))))))))))))))))))))))))))))))
set_option maxRecDepth 100000 in
theorem fenv13 : EnvOk F13 Tryz.prog := layer_env env3_ok
set_option maxRecDepth 100000 in
theorem fov13 : OvOk F13 Tryz.prog := layer_ov ov3_ok fenv12 fov12 rfl ftabs13
set_option maxRecDepth 100000 in
theorem ftn14_7 : ∀ q ∈ tn14_7, Fact E3 Tryz.prog 7 q := fact_tab fenv13 fov13 rfl ktn14_7
set_option maxRecDepth 100000 in
theorem ftb14_7 : ∀ q ∈ tb14_7, Fact E3 Tryz.prog 7 q := fact_app ftn14_7 ftb13_7
set_option maxRecDepth 100000 in
theorem ftabs14 : TabsOk E3 Tryz.prog tabs14 := .cons ftn3_6 (.cons ftb14_7 (.cons ftn3_12 (.cons ftn2_13 (.cons ftn1_16 (.cons ftn2_19 (.cons ftb13_20 (.cons ftn1_21 (.cons ftn2_22 (.cons ftn1_23 (.cons ftn1_30 (.cons ftn8_31 (.cons ftn2_32 (.cons ftn1_40 (.cons ftn7_46 (.cons ftn1_47 (.cons ftn1_49 (.cons ftb12_79 (.cons ftn6_125 (.cons ftn11_143 (.cons ftn12_144 (.cons ftn10_147 (.cons ftb7_150 (.cons ftb11_151 (.cons ftn8_152 (.cons ftn5_161 (.cons ftn10_163 (.cons ftb4_164 (.cons ftb3_166 (.cons ftn9_167 (.cons ftn6_168 (.cons ftn5_173 (.cons ftn1_176 (.cons ftn5_187 (.cons ftn4_190 (.cons ftn10_207 (.cons ftb4_208 (.cons ftb9_209 (.cons ftn11_211 (.cons ftb6_216 (.cons ftb10_220 (.cons ftb3_224 (.cons ftn1_228 (.cons ftb5_229 (.cons ftn4_232 (.cons ftn9_233 (.cons ftb2_235 (.cons ftn8_236 (.cons ftn10_242 (.cons ftn4_243 (.cons ftb4_253 (.cons ftn2_265 (.cons ftn3_267 (.cons ftn8_268 (.cons ftb5_272 (.cons ftn1_276 (.cons ftn2_279 (.cons ftb9_280 (.cons ftn2_283 (.cons ftb3_310 (.cons ftn1_319 (.cons ftn6_323 (.cons ftn2_383 (.cons ftb3_385 (.cons ftn7_390 (.cons ftn1_404 (.cons ftn5_407 (.cons ftn4_408 (.cons ftb7_409 (.cons ftn3_411 (.cons ftb8_412 (.cons ftn2_415 (.cons ftn1_418 (.cons ftn5_505 (.cons ftn6_521 (.cons ftn5_532 (.cons ftn5_549 (.cons ftn1_579 (.cons ftn1_583 (.cons ftn2_584 (.cons ftn1_609 (.cons ftn2_628 (.cons ftn2_646 (.cons ftb2_682 (.cons ftn5_710 (.cons ftn3_713 (.cons ftn2_718 (.cons ftn4_727 (.cons ftn4_729 (.cons ftn1_811 (.cons ftn1_836 (.cons ftn4_851 (.cons ftn3_857 (.cons ftn2_858 (.cons ftn1_917 (.cons ftn1_961 (.nil))))))))))))))))))))))))))))))))))))))))))))))))))))))))))))))))))))))))))))))))))))))))))))))))
set_option maxRecDepth 100000 in
theorem fenv14 : EnvOk F14 Tryz.prog := layer_env env3_ok
set_option maxRecDepth 100000 in
theorem fov14 : OvOk F14 Tryz.prog := layer_ov ov3_ok fenv13 fov13 rfl ftabs14
set_option maxRecDepth 100000 in
theorem ftn15_4 : ∀ q ∈ tn15_4, Fact E3 Tryz.prog 4 q := fact_tab fenv14 fov14 rfl ktn15_4
/-- The law's own check comes to true. -/
theorem sane_fact : Fact E3 Tryz.prog 4 ([], .bool true) := ftn15_4 _ (List.mem_cons_self ..)
end
end Go.AM.S40
