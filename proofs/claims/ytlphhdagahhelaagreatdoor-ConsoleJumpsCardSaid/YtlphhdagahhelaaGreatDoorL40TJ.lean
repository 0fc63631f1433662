import Derived.Test.YtlphhdagahhelaaGreatDoorL40TP0
import Derived.Test.YtlphhdagahhelaaGreatDoorL40TP1
import Derived.Test.YtlphhdagahhelaaGreatDoorL40TP2
import Derived.Test.YtlphhdagahhelaaGreatDoorL40TP3
import Derived.Test.YtlphhdagahhelaaGreatDoorL40TP4
import Derived.Test.YtlphhdagahhelaaGreatDoorL40TP5
import Derived.Test.YtlphhdagahhelaaGreatDoorL40TP6
import Derived.Test.YtlphhdagahhelaaGreatDoorL40TP7
set_option linter.all false
/- Known results: joined. -/
namespace Go.AM.L40
open Go Go.Proofs
noncomputable section
set_option maxRecDepth 100000 in
theorem ftn1_13 : ∀ q ∈ tn1_13, Fact E3 Tryz.prog 13 q := fact_tab env3_ok ov3_ok rfl ktn1_13
set_option maxRecDepth 100000 in
theorem ftn1_576 : ∀ q ∈ tn1_576, Fact E3 Tryz.prog 576 q := fact_tab env3_ok ov3_ok rfl ktn1_576
set_option maxRecDepth 100000 in
theorem ftn1_580 : ∀ q ∈ tn1_580, Fact E3 Tryz.prog 580 q := fact_tab env3_ok ov3_ok rfl ktn1_580
set_option maxRecDepth 100000 in
theorem ftn1_415 : ∀ q ∈ tn1_415, Fact E3 Tryz.prog 415 q := fact_tab env3_ok ov3_ok rfl ktn1_415
set_option maxRecDepth 100000 in
theorem ftn1_374 : ∀ q ∈ tn1_374, Fact E3 Tryz.prog 374 q := fact_tab env3_ok ov3_ok rfl ktn1_374
set_option maxRecDepth 100000 in
theorem ftn1_27 : ∀ q ∈ tn1_27, Fact E3 Tryz.prog 27 q := fact_tab env3_ok ov3_ok rfl ktn1_27
set_option maxRecDepth 100000 in
theorem ftn1_115 : ∀ q ∈ tn1_115, Fact E3 Tryz.prog 115 q := fact_tab env3_ok ov3_ok rfl ktn1_115
set_option maxRecDepth 100000 in
theorem ftn1_34 : ∀ q ∈ tn1_34, Fact E3 Tryz.prog 34 q := fact_tab env3_ok ov3_ok rfl ktn1_34
set_option maxRecDepth 100000 in
theorem ftn1_682 : ∀ q ∈ tn1_682, Fact E3 Tryz.prog 682 q := fact_tab env3_ok ov3_ok rfl ktn1_682
set_option maxRecDepth 100000 in
theorem ftn1_212 : ∀ q ∈ tn1_212, Fact E3 Tryz.prog 212 q := fact_tab env3_ok ov3_ok rfl ktn1_212
set_option maxRecDepth 100000 in
theorem ftn1_180 : ∀ q ∈ tn1_180, Fact E3 Tryz.prog 180 q := fact_tab env3_ok ov3_ok rfl ktn1_180
set_option maxRecDepth 100000 in
theorem ftn1_812 : ∀ q ∈ tn1_812, Fact E3 Tryz.prog 812 q := fact_tab env3_ok ov3_ok rfl ktn1_812
set_option maxRecDepth 100000 in
theorem ftn1_297 : ∀ q ∈ tn1_297, Fact E3 Tryz.prog 297 q := fact_tab env3_ok ov3_ok rfl ktn1_297
set_option maxRecDepth 100000 in
theorem ftn1_150 : ∀ q ∈ tn1_150, Fact E3 Tryz.prog 150 q := fact_tab env3_ok ov3_ok rfl ktn1_150
set_option maxRecDepth 100000 in
theorem ftn1_122 : ∀ q ∈ tn1_122, Fact E3 Tryz.prog 122 q := fact_tab env3_ok ov3_ok rfl ktn1_122
set_option maxRecDepth 100000 in
theorem ftn1_29 : ∀ q ∈ tn1_29, Fact E3 Tryz.prog 29 q := fact_tab env3_ok ov3_ok rfl ktn1_29
set_option maxRecDepth 100000 in
theorem ftn1_962 : ∀ q ∈ tn1_962, Fact E3 Tryz.prog 962 q := fact_tab env3_ok ov3_ok rfl ktn1_962
set_option maxRecDepth 100000 in
theorem ftn1_837 : ∀ q ∈ tn1_837, Fact E3 Tryz.prog 837 q := fact_tab env3_ok ov3_ok rfl ktn1_837
set_option maxRecDepth 100000 in
theorem ftn1_306 : ∀ q ∈ tn1_306, Fact E3 Tryz.prog 306 q := fact_tab env3_ok ov3_ok rfl ktn1_306
set_option maxRecDepth 100000 in
theorem ftn1_918 : ∀ q ∈ tn1_918, Fact E3 Tryz.prog 918 q := fact_tab env3_ok ov3_ok rfl ktn1_918
set_option maxRecDepth 100000 in
theorem ftn1_609 : ∀ q ∈ tn1_609, Fact E3 Tryz.prog 609 q := fact_tab env3_ok ov3_ok rfl ktn1_609
set_option maxRecDepth 100000 in
theorem ftn1_401 : ∀ q ∈ tn1_401, Fact E3 Tryz.prog 401 q := fact_tab env3_ok ov3_ok rfl ktn1_401
set_option maxRecDepth 100000 in
theorem ftn1_263 : ∀ q ∈ tn1_263, Fact E3 Tryz.prog 263 q := fact_tab env3_ok ov3_ok rfl ktn1_263
set_option maxRecDepth 100000 in
theorem ftn1_259 : ∀ q ∈ tn1_259, Fact E3 Tryz.prog 259 q := fact_tab env3_ok ov3_ok rfl ktn1_259
set_option maxRecDepth 100000 in
theorem ftn1_201 : ∀ q ∈ tn1_201, Fact E3 Tryz.prog 201 q := fact_tab env3_ok ov3_ok rfl ktn1_201
set_option maxRecDepth 100000 in
theorem ftn1_205 : ∀ q ∈ tn1_205, Fact E3 Tryz.prog 205 q := fact_tab env3_ok ov3_ok rfl ktn1_205
set_option maxRecDepth 100000 in
theorem ftn1_206 : ∀ q ∈ tn1_206, Fact E3 Tryz.prog 206 q := fact_tab env3_ok ov3_ok rfl ktn1_206
set_option maxRecDepth 100000 in
theorem ftn1_86 : ∀ q ∈ tn1_86, Fact E3 Tryz.prog 86 q := fact_tab env3_ok ov3_ok rfl ktn1_86
set_option maxRecDepth 100000 in
theorem ftabs1 : TabsOk E3 Tryz.prog tabs1 := .cons ftn1_13 (.cons ftn1_27 (.cons ftn1_29 (.cons ftn1_34 (.cons ftn1_86 (.cons ftn1_115 (.cons ftn1_122 (.cons ftn1_150 (.cons ftn1_180 (.cons ftn1_201 (.cons ftn1_205 (.cons ftn1_206 (.cons ftn1_212 (.cons ftn1_259 (.cons ftn1_263 (.cons ftn1_297 (.cons ftn1_306 (.cons ftn1_374 (.cons ftn1_401 (.cons ftn1_415 (.cons ftn1_576 (.cons ftn1_580 (.cons ftn1_609 (.cons ftn1_682 (.cons ftn1_812 (.cons ftn1_837 (.cons ftn1_918 (.cons ftn1_962 (.nil))))))))))))))))))))))))))))
set_option maxRecDepth 100000 in
theorem fenv1 : EnvOk F1 Tryz.prog := layer_env env3_ok
set_option maxRecDepth 100000 in
theorem fov1 : OvOk F1 Tryz.prog := layer_ov ov3_ok env3_ok ov3_ok rfl ftabs1
set_option maxRecDepth 100000 in
theorem ftn2_372 : ∀ q ∈ tn2_372, Fact E3 Tryz.prog 372 q := fact_tab fenv1 fov1 rfl ktn2_372
set_option maxRecDepth 100000 in
theorem ftn2_374 : ∀ q ∈ tn2_374, Fact E3 Tryz.prog 374 q := fact_tab fenv1 fov1 rfl ktn2_374
set_option maxRecDepth 100000 in
theorem ftb2_374 : ∀ q ∈ tb2_374, Fact E3 Tryz.prog 374 q := fact_app ftn2_374 ftn1_374
set_option maxRecDepth 100000 in
theorem ftn2_51 : ∀ q ∈ tn2_51, Fact E3 Tryz.prog 51 q := fact_tab fenv1 fov1 rfl ktn2_51
set_option maxRecDepth 100000 in
theorem ftn2_140 : ∀ q ∈ tn2_140, Fact E3 Tryz.prog 140 q := fact_tab fenv1 fov1 rfl ktn2_140
set_option maxRecDepth 100000 in
theorem ftn2_581 : ∀ q ∈ tn2_581, Fact E3 Tryz.prog 581 q := fact_tab fenv1 fov1 rfl ktn2_581
set_option maxRecDepth 100000 in
theorem ftn2_718 : ∀ q ∈ tn2_718, Fact E3 Tryz.prog 718 q := fact_tab fenv1 fov1 rfl ktn2_718
set_option maxRecDepth 100000 in
theorem ftn2_646 : ∀ q ∈ tn2_646, Fact E3 Tryz.prog 646 q := fact_tab fenv1 fov1 rfl ktn2_646
set_option maxRecDepth 100000 in
theorem ftn2_55 : ∀ q ∈ tn2_55, Fact E3 Tryz.prog 55 q := fact_tab fenv1 fov1 rfl ktn2_55
set_option maxRecDepth 100000 in
theorem ftn2_17 : ∀ q ∈ tn2_17, Fact E3 Tryz.prog 17 q := fact_tab fenv1 fov1 rfl ktn2_17
set_option maxRecDepth 100000 in
theorem ftn2_859 : ∀ q ∈ tn2_859, Fact E3 Tryz.prog 859 q := fact_tab fenv1 fov1 rfl ktn2_859
set_option maxRecDepth 100000 in
theorem ftn2_682 : ∀ q ∈ tn2_682, Fact E3 Tryz.prog 682 q := fact_tab fenv1 fov1 rfl ktn2_682
set_option maxRecDepth 100000 in
theorem ftb2_682 : ∀ q ∈ tb2_682, Fact E3 Tryz.prog 682 q := fact_app ftn2_682 ftn1_682
set_option maxRecDepth 100000 in
theorem ftn2_244 : ∀ q ∈ tn2_244, Fact E3 Tryz.prog 244 q := fact_tab fenv1 fov1 rfl ktn2_244
set_option maxRecDepth 100000 in
theorem ftn2_212 : ∀ q ∈ tn2_212, Fact E3 Tryz.prog 212 q := fact_tab fenv1 fov1 rfl ktn2_212
set_option maxRecDepth 100000 in
theorem ftb2_212 : ∀ q ∈ tb2_212, Fact E3 Tryz.prog 212 q := fact_app ftn2_212 ftn1_212
set_option maxRecDepth 100000 in
theorem ftn2_266 : ∀ q ∈ tn2_266, Fact E3 Tryz.prog 266 q := fact_tab fenv1 fov1 rfl ktn2_266
set_option maxRecDepth 100000 in
theorem ftn2_412 : ∀ q ∈ tn2_412, Fact E3 Tryz.prog 412 q := fact_tab fenv1 fov1 rfl ktn2_412
set_option maxRecDepth 100000 in
theorem ftn2_628 : ∀ q ∈ tn2_628, Fact E3 Tryz.prog 628 q := fact_tab fenv1 fov1 rfl ktn2_628
set_option maxRecDepth 100000 in
theorem ftn2_267 : ∀ q ∈ tn2_267, Fact E3 Tryz.prog 267 q := fact_tab fenv1 fov1 rfl ktn2_267
set_option maxRecDepth 100000 in
theorem ftn2_270 : ∀ q ∈ tn2_270, Fact E3 Tryz.prog 270 q := fact_tab fenv1 fov1 rfl ktn2_270
set_option maxRecDepth 100000 in
theorem ftn2_193 : ∀ q ∈ tn2_193, Fact E3 Tryz.prog 193 q := fact_tab fenv1 fov1 rfl ktn2_193
set_option maxRecDepth 100000 in
theorem ftn2_40 : ∀ q ∈ tn2_40, Fact E3 Tryz.prog 40 q := fact_tab fenv1 fov1 rfl ktn2_40
set_option maxRecDepth 100000 in
theorem ftabs2 : TabsOk E3 Tryz.prog tabs2 := .cons ftn1_13 (.cons ftn2_17 (.cons ftn1_27 (.cons ftn1_29 (.cons ftn1_34 (.cons ftn2_40 (.cons ftn2_51 (.cons ftn2_55 (.cons ftn1_86 (.cons ftn1_115 (.cons ftn1_122 (.cons ftn2_140 (.cons ftn1_150 (.cons ftn1_180 (.cons ftn2_193 (.cons ftn1_201 (.cons ftn1_205 (.cons ftn1_206 (.cons ftb2_212 (.cons ftn2_244 (.cons ftn1_259 (.cons ftn1_263 (.cons ftn2_266 (.cons ftn2_267 (.cons ftn2_270 (.cons ftn1_297 (.cons ftn1_306 (.cons ftn2_372 (.cons ftb2_374 (.cons ftn1_401 (.cons ftn2_412 (.cons ftn1_415 (.cons ftn1_576 (.cons ftn1_580 (.cons ftn2_581 (.cons ftn1_609 (.cons ftn2_628 (.cons ftn2_646 (.cons ftb2_682 (.cons ftn2_718 (.cons ftn1_812 (.cons ftn1_837 (.cons ftn2_859 (.cons ftn1_918 (.cons ftn1_962 (.nil)))))))))))))))))))))))))))))))))))))))))))))
set_option maxRecDepth 100000 in
theorem fenv2 : EnvOk F2 Tryz.prog := layer_env env3_ok
set_option maxRecDepth 100000 in
theorem fov2 : OvOk F2 Tryz.prog := layer_ov ov3_ok fenv1 fov1 rfl ftabs2
set_option maxRecDepth 100000 in
theorem ftn3_232 : ∀ q ∈ tn3_232, Fact E3 Tryz.prog 232 q := fact_tab fenv2 fov2 rfl ktn3_232
set_option maxRecDepth 100000 in
theorem ftn3_30 : ∀ q ∈ tn3_30, Fact E3 Tryz.prog 30 q := fact_tab fenv2 fov2 rfl ktn3_30
set_option maxRecDepth 100000 in
theorem ftn3_713 : ∀ q ∈ tn3_713, Fact E3 Tryz.prog 713 q := fact_tab fenv2 fov2 rfl ktn3_713
set_option maxRecDepth 100000 in
theorem ftn3_374 : ∀ q ∈ tn3_374, Fact E3 Tryz.prog 374 q := fact_tab fenv2 fov2 rfl ktn3_374
set_option maxRecDepth 100000 in
theorem ftb3_374 : ∀ q ∈ tb3_374, Fact E3 Tryz.prog 374 q := fact_app ftn3_374 ftb2_374
set_option maxRecDepth 100000 in
theorem ftn3_297 : ∀ q ∈ tn3_297, Fact E3 Tryz.prog 297 q := fact_tab fenv2 fov2 rfl ktn3_297
set_option maxRecDepth 100000 in
theorem ftb3_297 : ∀ q ∈ tb3_297, Fact E3 Tryz.prog 297 q := fact_app ftn3_297 ftn1_297
set_option maxRecDepth 100000 in
theorem ftn3_858 : ∀ q ∈ tn3_858, Fact E3 Tryz.prog 858 q := fact_tab fenv2 fov2 rfl ktn3_858
set_option maxRecDepth 100000 in
theorem ftn3_246 : ∀ q ∈ tn3_246, Fact E3 Tryz.prog 246 q := fact_tab fenv2 fov2 rfl ktn3_246
set_option maxRecDepth 100000 in
theorem ftn3_140 : ∀ q ∈ tn3_140, Fact E3 Tryz.prog 140 q := fact_tab fenv2 fov2 rfl ktn3_140
set_option maxRecDepth 100000 in
theorem ftb3_140 : ∀ q ∈ tb3_140, Fact E3 Tryz.prog 140 q := fact_app ftn3_140 ftn2_140
set_option maxRecDepth 100000 in
theorem ftn3_138 : ∀ q ∈ tn3_138, Fact E3 Tryz.prog 138 q := fact_tab fenv2 fov2 rfl ktn3_138
set_option maxRecDepth 100000 in
theorem ftn3_408 : ∀ q ∈ tn3_408, Fact E3 Tryz.prog 408 q := fact_tab fenv2 fov2 rfl ktn3_408
set_option maxRecDepth 100000 in
theorem ftn3_201 : ∀ q ∈ tn3_201, Fact E3 Tryz.prog 201 q := fact_tab fenv2 fov2 rfl ktn3_201
set_option maxRecDepth 100000 in
theorem ftb3_201 : ∀ q ∈ tb3_201, Fact E3 Tryz.prog 201 q := fact_app ftn3_201 ftn1_201
set_option maxRecDepth 100000 in
theorem ftn3_406 : ∀ q ∈ tn3_406, Fact E3 Tryz.prog 406 q := fact_tab fenv2 fov2 rfl ktn3_406
set_option maxRecDepth 100000 in
theorem ftn3_124 : ∀ q ∈ tn3_124, Fact E3 Tryz.prog 124 q := fact_tab fenv2 fov2 rfl ktn3_124
set_option maxRecDepth 100000 in
theorem ftn3_19 : ∀ q ∈ tn3_19, Fact E3 Tryz.prog 19 q := fact_tab fenv2 fov2 rfl ktn3_19
set_option maxRecDepth 100000 in
theorem ftabs3 : TabsOk E3 Tryz.prog tabs3 := .cons ftn1_13 (.cons ftn2_17 (.cons ftn3_19 (.cons ftn1_27 (.cons ftn1_29 (.cons ftn3_30 (.cons ftn1_34 (.cons ftn2_40 (.cons ftn2_51 (.cons ftn2_55 (.cons ftn1_86 (.cons ftn1_115 (.cons ftn1_122 (.cons ftn3_124 (.cons ftn3_138 (.cons ftb3_140 (.cons ftn1_150 (.cons ftn1_180 (.cons ftn2_193 (.cons ftb3_201 (.cons ftn1_205 (.cons ftn1_206 (.cons ftb2_212 (.cons ftn3_232 (.cons ftn2_244 (.cons ftn3_246 (.cons ftn1_259 (.cons ftn1_263 (.cons ftn2_266 (.cons ftn2_267 (.cons ftn2_270 (.cons ftb3_297 (.cons ftn1_306 (.cons ftn2_372 (.cons ftb3_374 (.cons ftn1_401 (.cons ftn3_406 (.cons ftn3_408 (.cons ftn2_412 (.cons ftn1_415 (.cons ftn1_576 (.cons ftn1_580 (.cons ftn2_581 (.cons ftn1_609 (.cons ftn2_628 (.cons ftn2_646 (.cons ftb2_682 (.cons ftn3_713 (.cons ftn2_718 (.cons ftn1_812 (.cons ftn1_837 (.cons ftn3_858 (.cons ftn2_859 (.cons ftn1_918 (.cons ftn1_962 (.nil)))))))))))))))))))))))))))))))))))))))))))))))))))))))
set_option maxRecDepth 100000 in
theorem fenv3 : EnvOk F3 Tryz.prog := layer_env env3_ok
set_option maxRecDepth 100000 in
theorem fov3 : OvOk F3 Tryz.prog := layer_ov ov3_ok fenv2 fov2 rfl ftabs3
set_option maxRecDepth 100000 in
theorem ftn4_162 : ∀ q ∈ tn4_162, Fact E3 Tryz.prog 162 q := fact_tab fenv3 fov3 rfl ktn4_162
set_option maxRecDepth 100000 in
theorem ftn4_852 : ∀ q ∈ tn4_852, Fact E3 Tryz.prog 852 q := fact_tab fenv3 fov3 rfl ktn4_852
set_option maxRecDepth 100000 in
theorem ftn4_232 : ∀ q ∈ tn4_232, Fact E3 Tryz.prog 232 q := fact_tab fenv3 fov3 rfl ktn4_232
set_option maxRecDepth 100000 in
theorem ftb4_232 : ∀ q ∈ tb4_232, Fact E3 Tryz.prog 232 q := fact_app ftn4_232 ftn3_232
set_option maxRecDepth 100000 in
theorem ftn4_209 : ∀ q ∈ tn4_209, Fact E3 Tryz.prog 209 q := fact_tab fenv3 fov3 rfl ktn4_209
set_option maxRecDepth 100000 in
theorem ftn4_727 : ∀ q ∈ tn4_727, Fact E3 Tryz.prog 727 q := fact_tab fenv3 fov3 rfl ktn4_727
set_option maxRecDepth 100000 in
theorem ftn4_180 : ∀ q ∈ tn4_180, Fact E3 Tryz.prog 180 q := fact_tab fenv3 fov3 rfl ktn4_180
set_option maxRecDepth 100000 in
theorem ftb4_180 : ∀ q ∈ tb4_180, Fact E3 Tryz.prog 180 q := fact_app ftn4_180 ftn1_180
set_option maxRecDepth 100000 in
theorem ftn4_138 : ∀ q ∈ tn4_138, Fact E3 Tryz.prog 138 q := fact_tab fenv3 fov3 rfl ktn4_138
set_option maxRecDepth 100000 in
theorem ftb4_138 : ∀ q ∈ tb4_138, Fact E3 Tryz.prog 138 q := fact_app ftn4_138 ftn3_138
set_option maxRecDepth 100000 in
theorem ftn4_729 : ∀ q ∈ tn4_729, Fact E3 Tryz.prog 729 q := fact_tab fenv3 fov3 rfl ktn4_729
set_option maxRecDepth 100000 in
theorem ftn4_405 : ∀ q ∈ tn4_405, Fact E3 Tryz.prog 405 q := fact_tab fenv3 fov3 rfl ktn4_405
set_option maxRecDepth 100000 in
theorem ftn4_220 : ∀ q ∈ tn4_220, Fact E3 Tryz.prog 220 q := fact_tab fenv3 fov3 rfl ktn4_220
set_option maxRecDepth 100000 in
theorem ftn4_409 : ∀ q ∈ tn4_409, Fact E3 Tryz.prog 409 q := fact_tab fenv3 fov3 rfl ktn4_409
set_option maxRecDepth 100000 in
theorem ftabs4 : TabsOk E3 Tryz.prog tabs4 := .cons ftn1_13 (.cons ftn2_17 (.cons ftn3_19 (.cons ftn1_27 (.cons ftn1_29 (.cons ftn3_30 (.cons ftn1_34 (.cons ftn2_40 (.cons ftn2_51 (.cons ftn2_55 (.cons ftn1_86 (.cons ftn1_115 (.cons ftn1_122 (.cons ftn3_124 (.cons ftb4_138 (.cons ftb3_140 (.cons ftn1_150 (.cons ftn4_162 (.cons ftb4_180 (.cons ftn2_193 (.cons ftb3_201 (.cons ftn1_205 (.cons ftn1_206 (.cons ftn4_209 (.cons ftb2_212 (.cons ftn4_220 (.cons ftb4_232 (.cons ftn2_244 (.cons ftn3_246 (.cons ftn1_259 (.cons ftn1_263 (.cons ftn2_266 (.cons ftn2_267 (.cons ftn2_270 (.cons ftb3_297 (.cons ftn1_306 (.cons ftn2_372 (.cons ftb3_374 (.cons ftn1_401 (.cons ftn4_405 (.cons ftn3_406 (.cons ftn3_408 (.cons ftn4_409 (.cons ftn2_412 (.cons ftn1_415 (.cons ftn1_576 (.cons ftn1_580 (.cons ftn2_581 (.cons ftn1_609 (.cons ftn2_628 (.cons ftn2_646 (.cons ftb2_682 (.cons ftn3_713 (.cons ftn2_718 (.cons ftn4_727 (.cons ftn4_729 (.cons ftn1_812 (.cons ftn1_837 (.cons ftn4_852 (.cons ftn3_858 (.cons ftn2_859 (.cons ftn1_918 (.cons ftn1_962 (.nil)))))))))))))))))))))))))))))))))))))))))))))))))))))))))))))))
set_option maxRecDepth 100000 in
theorem fenv4 : EnvOk F4 Tryz.prog := layer_env env3_ok
set_option maxRecDepth 100000 in
theorem fov4 : OvOk F4 Tryz.prog := layer_ov ov3_ok fenv3 fov3 rfl ftabs4
set_option maxRecDepth 100000 in
theorem ftn5_159 : ∀ q ∈ tn5_159, Fact E3 Tryz.prog 159 q := fact_tab fenv4 fov4 rfl ktn5_159
set_option maxRecDepth 100000 in
theorem ftn5_502 : ∀ q ∈ tn5_502, Fact E3 Tryz.prog 502 q := fact_tab fenv4 fov4 rfl ktn5_502
set_option maxRecDepth 100000 in
theorem ftn5_710 : ∀ q ∈ tn5_710, Fact E3 Tryz.prog 710 q := fact_tab fenv4 fov4 rfl ktn5_710
set_option maxRecDepth 100000 in
theorem ftn5_529 : ∀ q ∈ tn5_529, Fact E3 Tryz.prog 529 q := fact_tab fenv4 fov4 rfl ktn5_529
set_option maxRecDepth 100000 in
theorem ftn5_135 : ∀ q ∈ tn5_135, Fact E3 Tryz.prog 135 q := fact_tab fenv4 fov4 rfl ktn5_135
set_option maxRecDepth 100000 in
theorem ftn5_259 : ∀ q ∈ tn5_259, Fact E3 Tryz.prog 259 q := fact_tab fenv4 fov4 rfl ktn5_259
set_option maxRecDepth 100000 in
theorem ftb5_259 : ∀ q ∈ tb5_259, Fact E3 Tryz.prog 259 q := fact_app ftn5_259 ftn1_259
set_option maxRecDepth 100000 in
theorem ftn5_404 : ∀ q ∈ tn5_404, Fact E3 Tryz.prog 404 q := fact_tab fenv4 fov4 rfl ktn5_404
set_option maxRecDepth 100000 in
theorem ftn5_206 : ∀ q ∈ tn5_206, Fact E3 Tryz.prog 206 q := fact_tab fenv4 fov4 rfl ktn5_206
set_option maxRecDepth 100000 in
theorem ftb5_206 : ∀ q ∈ tb5_206, Fact E3 Tryz.prog 206 q := fact_app ftn5_206 ftn1_206
set_option maxRecDepth 100000 in
theorem ftn5_147 : ∀ q ∈ tn5_147, Fact E3 Tryz.prog 147 q := fact_tab fenv4 fov4 rfl ktn5_147
set_option maxRecDepth 100000 in
theorem ftn5_267 : ∀ q ∈ tn5_267, Fact E3 Tryz.prog 267 q := fact_tab fenv4 fov4 rfl ktn5_267
set_option maxRecDepth 100000 in
theorem ftb5_267 : ∀ q ∈ tb5_267, Fact E3 Tryz.prog 267 q := fact_app ftn5_267 ftn2_267
set_option maxRecDepth 100000 in
theorem ftn5_546 : ∀ q ∈ tn5_546, Fact E3 Tryz.prog 546 q := fact_tab fenv4 fov4 rfl ktn5_546
set_option maxRecDepth 100000 in
theorem ftabs5 : TabsOk E3 Tryz.prog tabs5 := .cons ftn1_13 (.cons ftn2_17 (.cons ftn3_19 (.cons ftn1_27 (.cons ftn1_29 (.cons ftn3_30 (.cons ftn1_34 (.cons ftn2_40 (.cons ftn2_51 (.cons ftn2_55 (.cons ftn1_86 (.cons ftn1_115 (.cons ftn1_122 (.cons ftn3_124 (.cons ftn5_135 (.cons ftb4_138 (.cons ftb3_140 (.cons ftn5_147 (.cons ftn1_150 (.cons ftn5_159 (.cons ftn4_162 (.cons ftb4_180 (.cons ftn2_193 (.cons ftb3_201 (.cons ftn1_205 (.cons ftb5_206 (.cons ftn4_209 (.cons ftb2_212 (.cons ftn4_220 (.cons ftb4_232 (.cons ftn2_244 (.cons ftn3_246 (.cons ftb5_259 (.cons ftn1_263 (.cons ftn2_266 (.cons ftb5_267 (.cons ftn2_270 (.cons ftb3_297 (.cons ftn1_306 (.cons ftn2_372 (.cons ftb3_374 (.cons ftn1_401 (.cons ftn5_404 (.cons ftn4_405 (.cons ftn3_406 (.cons ftn3_408 (.cons ftn4_409 (.cons ftn2_412 (.cons ftn1_415 (.cons ftn5_502 (.cons ftn5_529 (.cons ftn5_546 (.cons ftn1_576 (.cons ftn1_580 (.cons ftn2_581 (.cons ftn1_609 (.cons ftn2_628 (.cons ftn2_646 (.cons ftb2_682 (.cons ftn5_710 (.cons ftn3_713 (.cons ftn2_718 (.cons ftn4_727 (.cons ftn4_729 (.cons ftn1_812 (.cons ftn1_837 (.cons ftn4_852 (.cons ftn3_858 (.cons ftn2_859 (.cons ftn1_918 (.cons ftn1_962 (.nil)))))))))))))))))))))))))))))))))))))))))))))))))))))))))))))))))))))))
set_option maxRecDepth 100000 in
theorem fenv5 : EnvOk F5 Tryz.prog := layer_env env3_ok
set_option maxRecDepth 100000 in
theorem fov5 : OvOk F5 Tryz.prog := layer_ov ov3_ok fenv4 fov4 rfl ftabs5
set_option maxRecDepth 100000 in
theorem ftn6_90 : ∀ q ∈ tn6_90, Fact E3 Tryz.prog 90 q := fact_tab fenv5 fov5 rfl ktn6_90
set_option maxRecDepth 100000 in
theorem ftn6_310 : ∀ q ∈ tn6_310, Fact E3 Tryz.prog 310 q := fact_tab fenv5 fov5 rfl ktn6_310
set_option maxRecDepth 100000 in
theorem ftn6_518 : ∀ q ∈ tn6_518, Fact E3 Tryz.prog 518 q := fact_tab fenv5 fov5 rfl ktn6_518
set_option maxRecDepth 100000 in
theorem ftn6_193 : ∀ q ∈ tn6_193, Fact E3 Tryz.prog 193 q := fact_tab fenv5 fov5 rfl ktn6_193
set_option maxRecDepth 100000 in
theorem ftb6_193 : ∀ q ∈ tb6_193, Fact E3 Tryz.prog 193 q := fact_app ftn6_193 ftn2_193
set_option maxRecDepth 100000 in
theorem ftn6_267 : ∀ q ∈ tn6_267, Fact E3 Tryz.prog 267 q := fact_tab fenv5 fov5 rfl ktn6_267
set_option maxRecDepth 100000 in
theorem ftb6_267 : ∀ q ∈ tb6_267, Fact E3 Tryz.prog 267 q := fact_app ftn6_267 ftb5_267
set_option maxRecDepth 100000 in
theorem ftn6_197 : ∀ q ∈ tn6_197, Fact E3 Tryz.prog 197 q := fact_tab fenv5 fov5 rfl ktn6_197
set_option maxRecDepth 100000 in
theorem ftn6_142 : ∀ q ∈ tn6_142, Fact E3 Tryz.prog 142 q := fact_tab fenv5 fov5 rfl ktn6_142
set_option maxRecDepth 100000 in
theorem ftabs6 : TabsOk E3 Tryz.prog tabs6 := .cons ftn1_13 (.cons ftn2_17 (.cons ftn3_19 (.cons ftn1_27 (.cons ftn1_29 (.cons ftn3_30 (.cons ftn1_34 (.cons ftn2_40 (.cons ftn2_51 (.cons ftn2_55 (.cons ftn1_86 (.cons ftn6_90 (.cons ftn1_115 (.cons ftn1_122 (.cons ftn3_124 (.cons ftn5_135 (.cons ftb4_138 (.cons ftb3_140 (.cons ftn6_142 (.cons ftn5_147 (.cons ftn1_150 (.cons ftn5_159 (.cons ftn4_162 (.cons ftb4_180 (.cons ftb6_193 (.cons ftn6_197 (.cons ftb3_201 (.cons ftn1_205 (.cons ftb5_206 (.cons ftn4_209 (.cons ftb2_212 (.cons ftn4_220 (.cons ftb4_232 (.cons ftn2_244 (.cons ftn3_246 (.cons ftb5_259 (.cons ftn1_263 (.cons ftn2_266 (.cons ftb6_267 (.cons ftn2_270 (.cons ftb3_297 (.cons ftn1_306 (.cons ftn6_310 (.cons ftn2_372 (.cons ftb3_374 (.cons ftn1_401 (.cons ftn5_404 (.cons ftn4_405 (.cons ftn3_406 (.cons ftn3_408 (.cons ftn4_409 (.cons ftn2_412 (.cons ftn1_415 (.cons ftn5_502 (.cons ftn6_518 (.cons ftn5_529 (.cons ftn5_546 (.cons ftn1_576 (.cons ftn1_580 (.cons ftn2_581 (.cons ftn1_609 (.cons ftn2_628 (.cons ftn2_646 (.cons ftb2_682 (.cons ftn5_710 (.cons ftn3_713 (.cons ftn2_718 (.cons ftn4_727 (.cons ftn4_729 (.cons ftn1_812 (.cons ftn1_837 (.cons ftn4_852 (.cons ftn3_858 (.cons ftn2_859 (.cons ftn1_918 (.cons ftn1_962 (.nil))))))))))))))))))))))))))))))))))))))))))))))))))))))))))))))))))))))))))))
set_option maxRecDepth 100000 in
theorem fenv6 : EnvOk F6 Tryz.prog := layer_env env3_ok
set_option maxRecDepth 100000 in
theorem fov6 : OvOk F6 Tryz.prog := layer_ov ov3_ok fenv5 fov5 rfl ftabs6
set_option maxRecDepth 100000 in
theorem ftn7_26 : ∀ q ∈ tn7_26, Fact E3 Tryz.prog 26 q := fact_tab fenv6 fov6 rfl ktn7_26
set_option maxRecDepth 100000 in
theorem ftn7_379 : ∀ q ∈ tn7_379, Fact E3 Tryz.prog 379 q := fact_tab fenv6 fov6 rfl ktn7_379
set_option maxRecDepth 100000 in
theorem ftn7_124 : ∀ q ∈ tn7_124, Fact E3 Tryz.prog 124 q := fact_tab fenv6 fov6 rfl ktn7_124
set_option maxRecDepth 100000 in
theorem ftb7_124 : ∀ q ∈ tb7_124, Fact E3 Tryz.prog 124 q := fact_app ftn7_124 ftn3_124
set_option maxRecDepth 100000 in
theorem ftn7_406 : ∀ q ∈ tn7_406, Fact E3 Tryz.prog 406 q := fact_tab fenv6 fov6 rfl ktn7_406
set_option maxRecDepth 100000 in
theorem ftb7_406 : ∀ q ∈ tb7_406, Fact E3 Tryz.prog 406 q := fact_app ftn7_406 ftn3_406
set_option maxRecDepth 100000 in
theorem ftn7_125 : ∀ q ∈ tn7_125, Fact E3 Tryz.prog 125 q := fact_tab fenv6 fov6 rfl ktn7_125
set_option maxRecDepth 100000 in
theorem ftn7_197 : ∀ q ∈ tn7_197, Fact E3 Tryz.prog 197 q := fact_tab fenv6 fov6 rfl ktn7_197
set_option maxRecDepth 100000 in
theorem ftb7_197 : ∀ q ∈ tb7_197, Fact E3 Tryz.prog 197 q := fact_app ftn7_197 ftn6_197
set_option maxRecDepth 100000 in
theorem ftabs7 : TabsOk E3 Tryz.prog tabs7 := .cons ftn1_13 (.cons ftn2_17 (.cons ftn3_19 (.cons ftn7_26 (.cons ftn1_27 (.cons ftn1_29 (.cons ftn3_30 (.cons ftn1_34 (.cons ftn2_40 (.cons ftn2_51 (.cons ftn2_55 (.cons ftn1_86 (.cons ftn6_90 (.cons ftn1_115 (.cons ftn1_122 (.cons ftb7_124 (.cons ftn7_125 (.cons ftn5_135 (.cons ftb4_138 (.cons ftb3_140 (.cons ftn6_142 (.cons ftn5_147 (.cons ftn1_150 (.cons ftn5_159 (.cons ftn4_162 (.cons ftb4_180 (.cons ftb6_193 (.cons ftb7_197 (.cons ftb3_201 (.cons ftn1_205 (.cons ftb5_206 (.cons ftn4_209 (.cons ftb2_212 (.cons ftn4_220 (.cons ftb4_232 (.cons ftn2_244 (.cons ftn3_246 (.cons ftb5_259 (.cons ftn1_263 (.cons ftn2_266 (.cons ftb6_267 (.cons ftn2_270 (.cons ftb3_297 (.cons ftn1_306 (.cons ftn6_310 (.cons ftn2_372 (.cons ftb3_374 (.cons ftn7_379 (.cons ftn1_401 (.cons ftn5_404 (.cons ftn4_405 (.cons ftb7_406 (.cons ftn3_408 (.cons ftn4_409 (.cons ftn2_412 (.cons ftn1_415 (.cons ftn5_502 (.cons ftn6_518 (.cons ftn5_529 (.cons ftn5_546 (.cons ftn1_576 (.cons ftn1_580 (.cons ftn2_581 (.cons ftn1_609 (.cons ftn2_628 (.cons ftn2_646 (.cons ftb2_682 (.cons ftn5_710 (.cons ftn3_713 (.cons ftn2_718 (.cons ftn4_727 (.cons ftn4_729 (.cons ftn1_812 (.cons ftn1_837 (.cons ftn4_852 (.cons ftn3_858 (.cons ftn2_859 (.cons ftn1_918 (.cons ftn1_962 (.nil)))))))))))))))))))))))))))))))))))))))))))))))))))))))))))))))))))))))))))))))
set_option maxRecDepth 100000 in
theorem fenv7 : EnvOk F7 Tryz.prog := layer_env env3_ok
set_option maxRecDepth 100000 in
theorem fov7 : OvOk F7 Tryz.prog := layer_ov ov3_ok fenv6 fov6 rfl ftabs7
set_option maxRecDepth 100000 in
theorem ftn8_16 : ∀ q ∈ tn8_16, Fact E3 Tryz.prog 16 q := fact_tab fenv7 fov7 rfl ktn8_16
set_option maxRecDepth 100000 in
theorem ftn8_181 : ∀ q ∈ tn8_181, Fact E3 Tryz.prog 181 q := fact_tab fenv7 fov7 rfl ktn8_181
set_option maxRecDepth 100000 in
theorem ftn8_247 : ∀ q ∈ tn8_247, Fact E3 Tryz.prog 247 q := fact_tab fenv7 fov7 rfl ktn8_247
set_option maxRecDepth 100000 in
theorem ftn8_409 : ∀ q ∈ tn8_409, Fact E3 Tryz.prog 409 q := fact_tab fenv7 fov7 rfl ktn8_409
set_option maxRecDepth 100000 in
theorem ftb8_409 : ∀ q ∈ tb8_409, Fact E3 Tryz.prog 409 q := fact_app ftn8_409 ftn4_409
set_option maxRecDepth 100000 in
theorem ftn8_126 : ∀ q ∈ tn8_126, Fact E3 Tryz.prog 126 q := fact_tab fenv7 fov7 rfl ktn8_126
set_option maxRecDepth 100000 in
theorem ftn8_213 : ∀ q ∈ tn8_213, Fact E3 Tryz.prog 213 q := fact_tab fenv7 fov7 rfl ktn8_213
set_option maxRecDepth 100000 in
theorem ftn8_125 : ∀ q ∈ tn8_125, Fact E3 Tryz.prog 125 q := fact_tab fenv7 fov7 rfl ktn8_125
set_option maxRecDepth 100000 in
theorem ftb8_125 : ∀ q ∈ tb8_125, Fact E3 Tryz.prog 125 q := fact_app ftn8_125 ftn7_125
set_option maxRecDepth 100000 in
theorem ftabs8 : TabsOk E3 Tryz.prog tabs8 := .cons ftn1_13 (.cons ftn8_16 (.cons ftn2_17 (.cons ftn3_19 (.cons ftn7_26 (.cons ftn1_27 (.cons ftn1_29 (.cons ftn3_30 (.cons ftn1_34 (.cons ftn2_40 (.cons ftn2_51 (.cons ftn2_55 (.cons ftn1_86 (.cons ftn6_90 (.cons ftn1_115 (.cons ftn1_122 (.cons ftb7_124 (.cons ftb8_125 (.cons ftn8_126 (.cons ftn5_135 (.cons ftb4_138 (.cons ftb3_140 (.cons ftn6_142 (.cons ftn5_147 (.cons ftn1_150 (.cons ftn5_159 (.cons ftn4_162 (.cons ftb4_180 (.cons ftn8_181 (.cons ftb6_193 (.cons ftb7_197 (.cons ftb3_201 (.cons ftn1_205 (.cons ftb5_206 (.cons ftn4_209 (.cons ftb2_212 (.cons ftn8_213 (.cons ftn4_220 (.cons ftb4_232 (.cons ftn2_244 (.cons ftn3_246 (.cons ftn8_247 (.cons ftb5_259 (.cons ftn1_263 (.cons ftn2_266 (.cons ftb6_267 (.cons ftn2_270 (.cons ftb3_297 (.cons ftn1_306 (.cons ftn6_310 (.cons ftn2_372 (.cons ftb3_374 (.cons ftn7_379 (.cons ftn1_401 (.cons ftn5_404 (.cons ftn4_405 (.cons ftb7_406 (.cons ftn3_408 (.cons ftb8_409 (.cons ftn2_412 (.cons ftn1_415 (.cons ftn5_502 (.cons ftn6_518 (.cons ftn5_529 (.cons ftn5_546 (.cons ftn1_576 (.cons ftn1_580 (.cons ftn2_581 (.cons ftn1_609 (.cons ftn2_628 (.cons ftn2_646 (.cons ftb2_682 (.cons ftn5_710 (.cons ftn3_713 (.cons ftn2_718 (.cons ftn4_727 (.cons ftn4_729 (.cons ftn1_812 (.cons ftn1_837 (.cons ftn4_852 (.cons ftn3_858 (.cons ftn2_859 (.cons ftn1_918 (.cons ftn1_962 (.nil))))))))))))))))))))))))))))))))))))))))))))))))))))))))))))))))))))))))))))))))))))
set_option maxRecDepth 100000 in
theorem fenv8 : EnvOk F8 Tryz.prog := layer_env env3_ok
set_option maxRecDepth 100000 in
theorem fov8 : OvOk F8 Tryz.prog := layer_ov ov3_ok fenv7 fov7 rfl ftabs8
set_option maxRecDepth 100000 in
theorem ftn9_210 : ∀ q ∈ tn9_210, Fact E3 Tryz.prog 210 q := fact_tab fenv8 fov8 rfl ktn9_210
set_option maxRecDepth 100000 in
theorem ftn9_181 : ∀ q ∈ tn9_181, Fact E3 Tryz.prog 181 q := fact_tab fenv8 fov8 rfl ktn9_181
set_option maxRecDepth 100000 in
theorem ftb9_181 : ∀ q ∈ tb9_181, Fact E3 Tryz.prog 181 q := fact_app ftn9_181 ftn8_181
set_option maxRecDepth 100000 in
theorem ftn9_267 : ∀ q ∈ tn9_267, Fact E3 Tryz.prog 267 q := fact_tab fenv8 fov8 rfl ktn9_267
set_option maxRecDepth 100000 in
theorem ftb9_267 : ∀ q ∈ tb9_267, Fact E3 Tryz.prog 267 q := fact_app ftn9_267 ftb6_267
set_option maxRecDepth 100000 in
theorem ftn9_141 : ∀ q ∈ tn9_141, Fact E3 Tryz.prog 141 q := fact_tab fenv8 fov8 rfl ktn9_141
set_option maxRecDepth 100000 in
theorem ftn9_58 : ∀ q ∈ tn9_58, Fact E3 Tryz.prog 58 q := fact_tab fenv8 fov8 rfl ktn9_58
set_option maxRecDepth 100000 in
theorem ftn9_12 : ∀ q ∈ tn9_12, Fact E3 Tryz.prog 12 q := fact_tab fenv8 fov8 rfl ktn9_12
set_option maxRecDepth 100000 in
theorem ftabs9 : TabsOk E3 Tryz.prog tabs9 := .cons ftn9_12 (.cons ftn1_13 (.cons ftn8_16 (.cons ftn2_17 (.cons ftn3_19 (.cons ftn7_26 (.cons ftn1_27 (.cons ftn1_29 (.cons ftn3_30 (.cons ftn1_34 (.cons ftn2_40 (.cons ftn2_51 (.cons ftn2_55 (.cons ftn9_58 (.cons ftn1_86 (.cons ftn6_90 (.cons ftn1_115 (.cons ftn1_122 (.cons ftb7_124 (.cons ftb8_125 (.cons ftn8_126 (.cons ftn5_135 (.cons ftb4_138 (.cons ftb3_140 (.cons ftn9_141 (.cons ftn6_142 (.cons ftn5_147 (.cons ftn1_150 (.cons ftn5_159 (.cons ftn4_162 (.cons ftb4_180 (.cons ftb9_181 (.cons ftb6_193 (.cons ftb7_197 (.cons ftb3_201 (.cons ftn1_205 (.cons ftb5_206 (.cons ftn4_209 (.cons ftn9_210 (.cons ftb2_212 (.cons ftn8_213 (.cons ftn4_220 (.cons ftb4_232 (.cons ftn2_244 (.cons ftn3_246 (.cons ftn8_247 (.cons ftb5_259 (.cons ftn1_263 (.cons ftn2_266 (.cons ftb9_267 (.cons ftn2_270 (.cons ftb3_297 (.cons ftn1_306 (.cons ftn6_310 (.cons ftn2_372 (.cons ftb3_374 (.cons ftn7_379 (.cons ftn1_401 (.cons ftn5_404 (.cons ftn4_405 (.cons ftb7_406 (.cons ftn3_408 (.cons ftb8_409 (.cons ftn2_412 (.cons ftn1_415 (.cons ftn5_502 (.cons ftn6_518 (.cons ftn5_529 (.cons ftn5_546 (.cons ftn1_576 (.cons ftn1_580 (.cons ftn2_581 (.cons ftn1_609 (.cons ftn2_628 (.cons ftn2_646 (.cons ftb2_682 (.cons ftn5_710 (.cons ftn3_713 (.cons ftn2_718 (.cons ftn4_727 (.cons ftn4_729 (.cons ftn1_812 (.cons ftn1_837 (.cons ftn4_852 (.cons ftn3_858 (.cons ftn2_859 (.cons ftn1_918 (.cons ftn1_962 (.nil))))))))))))))))))))))))))))))))))))))))))))))))))))))))))))))))))))))))))))))))))))))))
set_option maxRecDepth 100000 in
theorem fenv9 : EnvOk F9 Tryz.prog := layer_env env3_ok
set_option maxRecDepth 100000 in
theorem fov9 : OvOk F9 Tryz.prog := layer_ov ov3_ok fenv8 fov8 rfl ftabs9
set_option maxRecDepth 100000 in
theorem ftn10_179 : ∀ q ∈ tn10_179, Fact E3 Tryz.prog 179 q := fact_tab fenv9 fov9 rfl ktn10_179
set_option maxRecDepth 100000 in
theorem ftn10_137 : ∀ q ∈ tn10_137, Fact E3 Tryz.prog 137 q := fact_tab fenv9 fov9 rfl ktn10_137
set_option maxRecDepth 100000 in
theorem ftn10_197 : ∀ q ∈ tn10_197, Fact E3 Tryz.prog 197 q := fact_tab fenv9 fov9 rfl ktn10_197
set_option maxRecDepth 100000 in
theorem ftb10_197 : ∀ q ∈ tb10_197, Fact E3 Tryz.prog 197 q := fact_app ftn10_197 ftb7_197
set_option maxRecDepth 100000 in
theorem ftn10_219 : ∀ q ∈ tn10_219, Fact E3 Tryz.prog 219 q := fact_tab fenv9 fov9 rfl ktn10_219
set_option maxRecDepth 100000 in
theorem ftn10_12 : ∀ q ∈ tn10_12, Fact E3 Tryz.prog 12 q := fact_tab fenv9 fov9 rfl ktn10_12
set_option maxRecDepth 100000 in
theorem ftb10_12 : ∀ q ∈ tb10_12, Fact E3 Tryz.prog 12 q := fact_app ftn10_12 ftn9_12
set_option maxRecDepth 100000 in
theorem ftn10_113 : ∀ q ∈ tn10_113, Fact E3 Tryz.prog 113 q := fact_tab fenv9 fov9 rfl ktn10_113
set_option maxRecDepth 100000 in
theorem ftn10_9 : ∀ q ∈ tn10_9, Fact E3 Tryz.prog 9 q := fact_tab fenv9 fov9 rfl ktn10_9
set_option maxRecDepth 100000 in
theorem ftabs10 : TabsOk E3 Tryz.prog tabs10 := .cons ftn10_9 (.cons ftb10_12 (.cons ftn1_13 (.cons ftn8_16 (.cons ftn2_17 (.cons ftn3_19 (.cons ftn7_26 (.cons ftn1_27 (.cons ftn1_29 (.cons ftn3_30 (.cons ftn1_34 (.cons ftn2_40 (.cons ftn2_51 (.cons ftn2_55 (.cons ftn9_58 (.cons ftn1_86 (.cons ftn6_90 (.cons ftn10_113 (.cons ftn1_115 (.cons ftn1_122 (.cons ftb7_124 (.cons ftb8_125 (.cons ftn8_126 (.cons ftn5_135 (.cons ftn10_137 (.cons ftb4_138 (.cons ftb3_140 (.cons ftn9_141 (.cons ftn6_142 (.cons ftn5_147 (.cons ftn1_150 (.cons ftn5_159 (.cons ftn4_162 (.cons ftn10_179 (.cons ftb4_180 (.cons ftb9_181 (.cons ftb6_193 (.cons ftb10_197 (.cons ftb3_201 (.cons ftn1_205 (.cons ftb5_206 (.cons ftn4_209 (.cons ftn9_210 (.cons ftb2_212 (.cons ftn8_213 (.cons ftn10_219 (.cons ftn4_220 (.cons ftb4_232 (.cons ftn2_244 (.cons ftn3_246 (.cons ftn8_247 (.cons ftb5_259 (.cons ftn1_263 (.cons ftn2_266 (.cons ftb9_267 (.cons ftn2_270 (.cons ftb3_297 (.cons ftn1_306 (.cons ftn6_310 (.cons ftn2_372 (.cons ftb3_374 (.cons ftn7_379 (.cons ftn1_401 (.cons ftn5_404 (.cons ftn4_405 (.cons ftb7_406 (.cons ftn3_408 (.cons ftb8_409 (.cons ftn2_412 (.cons ftn1_415 (.cons ftn5_502 (.cons ftn6_518 (.cons ftn5_529 (.cons ftn5_546 (.cons ftn1_576 (.cons ftn1_580 (.cons ftn2_581 (.cons ftn1_609 (.cons ftn2_628 (.cons ftn2_646 (.cons ftb2_682 (.cons ftn5_710 (.cons ftn3_713 (.cons ftn2_718 (.cons ftn4_727 (.cons ftn4_729 (.cons ftn1_812 (.cons ftn1_837 (.cons ftn4_852 (.cons ftn3_858 (.cons ftn2_859 (.cons ftn1_918 (.cons ftn1_962 (.nil)))))))))))))))))))))))))))))))))))))))))))))))))))))))))))))))))))))))))))))))))))))))))))))
set_option maxRecDepth 100000 in
theorem fenv10 : EnvOk F10 Tryz.prog := layer_env env3_ok
set_option maxRecDepth 100000 in
theorem fov10 : OvOk F10 Tryz.prog := layer_ov ov3_ok fenv9 fov9 rfl ftabs10
set_option maxRecDepth 100000 in
theorem ftn11_108 : ∀ q ∈ tn11_108, Fact E3 Tryz.prog 108 q := fact_tab fenv10 fov10 rfl ktn11_108
set_option maxRecDepth 100000 in
theorem ftn11_183 : ∀ q ∈ tn11_183, Fact E3 Tryz.prog 183 q := fact_tab fenv10 fov10 rfl ktn11_183
set_option maxRecDepth 100000 in
theorem ftn11_125 : ∀ q ∈ tn11_125, Fact E3 Tryz.prog 125 q := fact_tab fenv10 fov10 rfl ktn11_125
set_option maxRecDepth 100000 in
theorem ftb11_125 : ∀ q ∈ tb11_125, Fact E3 Tryz.prog 125 q := fact_app ftn11_125 ftb8_125
set_option maxRecDepth 100000 in
theorem ftn11_9 : ∀ q ∈ tn11_9, Fact E3 Tryz.prog 9 q := fact_tab fenv10 fov10 rfl ktn11_9
set_option maxRecDepth 100000 in
theorem ftb11_9 : ∀ q ∈ tb11_9, Fact E3 Tryz.prog 9 q := fact_app ftn11_9 ftn10_9
set_option maxRecDepth 100000 in
theorem ftn11_12 : ∀ q ∈ tn11_12, Fact E3 Tryz.prog 12 q := fact_tab fenv10 fov10 rfl ktn11_12
set_option maxRecDepth 100000 in
theorem ftb11_12 : ∀ q ∈ tb11_12, Fact E3 Tryz.prog 12 q := fact_app ftn11_12 ftb10_12
set_option maxRecDepth 100000 in
theorem ftabs11 : TabsOk E3 Tryz.prog tabs11 := .cons ftb11_9 (.cons ftb11_12 (.cons ftn1_13 (.cons ftn8_16 (.cons ftn2_17 (.cons ftn3_19 (.cons ftn7_26 (.cons ftn1_27 (.cons ftn1_29 (.cons ftn3_30 (.cons ftn1_34 (.cons ftn2_40 (.cons ftn2_51 (.cons ftn2_55 (.cons ftn9_58 (.cons ftn1_86 (.cons ftn6_90 (.cons ftn11_108 (.cons ftn10_113 (.cons ftn1_115 (.cons ftn1_122 (.cons ftb7_124 (.cons ftb11_125 (.cons ftn8_126 (.cons ftn5_135 (.cons ftn10_137 (.cons ftb4_138 (.cons ftb3_140 (.cons ftn9_141 (.cons ftn6_142 (.cons ftn5_147 (.cons ftn1_150 (.cons ftn5_159 (.cons ftn4_162 (.cons ftn10_179 (.cons ftb4_180 (.cons ftb9_181 (.cons ftn11_183 (.cons ftb6_193 (.cons ftb10_197 (.cons ftb3_201 (.cons ftn1_205 (.cons ftb5_206 (.cons ftn4_209 (.cons ftn9_210 (.cons ftb2_212 (.cons ftn8_213 (.cons ftn10_219 (.cons ftn4_220 (.cons ftb4_232 (.cons ftn2_244 (.cons ftn3_246 (.cons ftn8_247 (.cons ftb5_259 (.cons ftn1_263 (.cons ftn2_266 (.cons ftb9_267 (.cons ftn2_270 (.cons ftb3_297 (.cons ftn1_306 (.cons ftn6_310 (.cons ftn2_372 (.cons ftb3_374 (.cons ftn7_379 (.cons ftn1_401 (.cons ftn5_404 (.cons ftn4_405 (.cons ftb7_406 (.cons ftn3_408 (.cons ftb8_409 (.cons ftn2_412 (.cons ftn1_415 (.cons ftn5_502 (.cons ftn6_518 (.cons ftn5_529 (.cons ftn5_546 (.cons ftn1_576 (.cons ftn1_580 (.cons ftn2_581 (.cons ftn1_609 (.cons ftn2_628 (.cons ftn2_646 (.cons ftb2_682 (.cons ftn5_710 (.cons ftn3_713 (.cons ftn2_718 (.cons ftn4_727 (.cons ftn4_729 (.cons ftn1_812 (.cons ftn1_837 (.cons ftn4_852 (.cons ftn3_858 (.cons ftn2_859 (.cons ftn1_918 (.cons ftn1_962 (.nil)))))))))))))))))))))))))))))))))))))))))))))))))))))))))))))))))))))))))))))))))))))))))))))))
set_option maxRecDepth 100000 in
theorem fenv11 : EnvOk F11 Tryz.prog := layer_env env3_ok
set_option maxRecDepth 100000 in
theorem fov11 : OvOk F11 Tryz.prog := layer_ov ov3_ok fenv10 fov10 rfl ftabs11
set_option maxRecDepth 100000 in
theorem ftn12_12 : ∀ q ∈ tn12_12, Fact E3 Tryz.prog 12 q := fact_tab fenv11 fov11 rfl ktn12_12
set_option maxRecDepth 100000 in
theorem ftb12_12 : ∀ q ∈ tb12_12, Fact E3 Tryz.prog 12 q := fact_app ftn12_12 ftb11_12
set_option maxRecDepth 100000 in
theorem ftn12_109 : ∀ q ∈ tn12_109, Fact E3 Tryz.prog 109 q := fact_tab fenv11 fov11 rfl ktn12_109
set_option maxRecDepth 100000 in
theorem ftn12_58 : ∀ q ∈ tn12_58, Fact E3 Tryz.prog 58 q := fact_tab fenv11 fov11 rfl ktn12_58
set_option maxRecDepth 100000 in
theorem ftb12_58 : ∀ q ∈ tb12_58, Fact E3 Tryz.prog 58 q := fact_app ftn12_58 ftn9_58
set_option maxRecDepth 100000 in
theorem ftn12_9 : ∀ q ∈ tn12_9, Fact E3 Tryz.prog 9 q := fact_tab fenv11 fov11 rfl ktn12_9
set_option maxRecDepth 100000 in
theorem ftb12_9 : ∀ q ∈ tb12_9, Fact E3 Tryz.prog 9 q := fact_app ftn12_9 ftb11_9
set_option maxRecDepth 100000 in
theorem ftabs12 : TabsOk E3 Tryz.prog tabs12 := .cons ftb12_9 (.cons ftb12_12 (.cons ftn1_13 (.cons ftn8_16 (.cons ftn2_17 (.cons ftn3_19 (.cons ftn7_26 (.cons ftn1_27 (.cons ftn1_29 (.cons ftn3_30 (.cons ftn1_34 (.cons ftn2_40 (.cons ftn2_51 (.cons ftn2_55 (.cons ftb12_58 (.cons ftn1_86 (.cons ftn6_90 (.cons ftn11_108 (.cons ftn12_109 (.cons ftn10_113 (.cons ftn1_115 (.cons ftn1_122 (.cons ftb7_124 (.cons ftb11_125 (.cons ftn8_126 (.cons ftn5_135 (.cons ftn10_137 (.cons ftb4_138 (.cons ftb3_140 (.cons ftn9_141 (.cons ftn6_142 (.cons ftn5_147 (.cons ftn1_150 (.cons ftn5_159 (.cons ftn4_162 (.cons ftn10_179 (.cons ftb4_180 (.cons ftb9_181 (.cons ftn11_183 (.cons ftb6_193 (.cons ftb10_197 (.cons ftb3_201 (.cons ftn1_205 (.cons ftb5_206 (.cons ftn4_209 (.cons ftn9_210 (.cons ftb2_212 (.cons ftn8_213 (.cons ftn10_219 (.cons ftn4_220 (.cons ftb4_232 (.cons ftn2_244 (.cons ftn3_246 (.cons ftn8_247 (.cons ftb5_259 (.cons ftn1_263 (.cons ftn2_266 (.cons ftb9_267 (.cons ftn2_270 (.cons ftb3_297 (.cons ftn1_306 (.cons ftn6_310 (.cons ftn2_372 (.cons ftb3_374 (.cons ftn7_379 (.cons ftn1_401 (.cons ftn5_404 (.cons ftn4_405 (.cons ftb7_406 (.cons ftn3_408 (.cons ftb8_409 (.cons ftn2_412 (.cons ftn1_415 (.cons ftn5_502 (.cons ftn6_518 (.cons ftn5_529 (.cons ftn5_546 (.cons ftn1_576 (.cons ftn1_580 (.cons ftn2_581 (.cons ftn1_609 (.cons ftn2_628 (.cons ftn2_646 (.cons ftb2_682 (.cons ftn5_710 (.cons ftn3_713 (.cons ftn2_718 (.cons ftn4_727 (.cons ftn4_729 (.cons ftn1_812 (.cons ftn1_837 (.cons ftn4_852 (.cons ftn3_858 (.cons ftn2_859 (.cons ftn1_918 (.cons ftn1_962 (.nil))))))))))))))))))))))))))))))))))))))))))))))))))))))))))))))))))))))))))))))))))))))))))))))))
set_option maxRecDepth 100000 in
theorem fenv12 : EnvOk F12 Tryz.prog := layer_env env3_ok
set_option maxRecDepth 100000 in
theorem fov12 : OvOk F12 Tryz.prog := layer_ov ov3_ok fenv11 fov11 rfl ftabs12
set_option maxRecDepth 100000 in
theorem ftn13_9 : ∀ q ∈ tn13_9, Fact E3 Tryz.prog 9 q := fact_tab fenv12 fov12 rfl ktn13_9
set_option maxRecDepth 100000 in
theorem ftb13_9 : ∀ q ∈ tb13_9, Fact E3 Tryz.prog 9 q := fact_app ftn13_9 ftb12_9
set_option maxRecDepth 100000 in
theorem ftn13_12 : ∀ q ∈ tn13_12, Fact E3 Tryz.prog 12 q := fact_tab fenv12 fov12 rfl ktn13_12
set_option maxRecDepth 100000 in
theorem ftb13_12 : ∀ q ∈ tb13_12, Fact E3 Tryz.prog 12 q := fact_app ftn13_12 ftb12_12
set_option maxRecDepth 100000 in
theorem ftabs13 : TabsOk E3 Tryz.prog tabs13 := .cons ftb13_9 (.cons ftb13_12 (.cons ftn1_13 (.cons ftn8_16 (.cons ftn2_17 (.cons ftn3_19 (.cons ftn7_26 (.cons ftn1_27 (.cons ftn1_29 (.cons ftn3_30 (.cons ftn1_34 (.cons ftn2_40 (.cons ftn2_51 (.cons ftn2_55 (.cons ftb12_58 (.cons ftn1_86 (.cons ftn6_90 (.cons ftn11_108 (.cons ftn12_109 (.cons ftn10_113 (.cons ftn1_115 (.cons ftn1_122 (.cons ftb7_124 (.cons ftb11_125 (.cons ftn8_126 (.cons ftn5_135 (.cons ftn10_137 (.cons ftb4_138 (.cons ftb3_140 (.cons ftn9_141 (.cons ftn6_142 (.cons ftn5_147 (.cons ftn1_150 (.cons ftn5_159 (.cons ftn4_162 (.cons ftn10_179 (.cons ftb4_180 (.cons ftb9_181 (.cons ftn11_183 (.cons ftb6_193 (.cons ftb10_197 (.cons ftb3_201 (.cons ftn1_205 (.cons ftb5_206 (.cons ftn4_209 (.cons ftn9_210 (.cons ftb2_212 (.cons ftn8_213 (.cons ftn10_219 (.cons ftn4_220 (.cons ftb4_232 (.cons ftn2_244 (.cons ftn3_246 (.cons ftn8_247 (.cons ftb5_259 (.cons ftn1_263 (.cons ftn2_266 (.cons ftb9_267 (.cons ftn2_270 (.cons ftb3_297 (.cons ftn1_306 (.cons ftn6_310 (.cons ftn2_372 (.cons ftb3_374 (.cons ftn7_379 (.cons ftn1_401 (.cons ftn5_404 (.cons ftn4_405 (.cons ftb7_406 (.cons ftn3_408 (.cons ftb8_409 (.cons ftn2_412 (.cons ftn1_415 (.cons ftn5_502 (.cons ftn6_518 (.cons ftn5_529 (.cons ftn5_546 (.cons ftn1_576 (.cons ftn1_580 (.cons ftn2_581 (.cons ftn1_609 (.cons ftn2_628 (.cons ftn2_646 (.cons ftb2_682 (.cons ftn5_710 (.cons ftn3_713 (.cons ftn2_718 (.cons ftn4_727 (.cons ftn4_729 (.cons ftn1_812 (.cons ftn1_837 (.cons ftn4_852 (.cons ftn3_858 (.cons ftn2_859 (.cons ftn1_918 (.cons ftn1_962 (.nil))))))))))))))))))))))))))))))))))))))))))))))))))))))))))))))))))))))))))))))))))))))))))))))))
set_option maxRecDepth 100000 in
theorem fenv13 : EnvOk F13 Tryz.prog := layer_env env3_ok
set_option maxRecDepth 100000 in
theorem fov13 : OvOk F13 Tryz.prog := layer_ov ov3_ok fenv12 fov12 rfl ftabs13
set_option maxRecDepth 100000 in
theorem ftn14_9 : ∀ q ∈ tn14_9, Fact E3 Tryz.prog 9 q := fact_tab fenv13 fov13 rfl ktn14_9
set_option maxRecDepth 100000 in
theorem ftb14_9 : ∀ q ∈ tb14_9, Fact E3 Tryz.prog 9 q := fact_app ftn14_9 ftb13_9
set_option maxRecDepth 100000 in
theorem ftabs14 : TabsOk E3 Tryz.prog tabs14 := .cons ftb14_9 (.cons ftb13_12 (.cons ftn1_13 (.cons ftn8_16 (.cons ftn2_17 (.cons ftn3_19 (.cons ftn7_26 (.cons ftn1_27 (.cons ftn1_29 (.cons ftn3_30 (.cons ftn1_34 (.cons ftn2_40 (.cons ftn2_51 (.cons ftn2_55 (.cons ftb12_58 (.cons ftn1_86 (.cons ftn6_90 (.cons ftn11_108 (.cons ftn12_109 (.cons ftn10_113 (.cons ftn1_115 (.cons ftn1_122 (.cons ftb7_124 (.cons ftb11_125 (.cons ftn8_126 (.cons ftn5_135 (.cons ftn10_137 (.cons ftb4_138 (.cons ftb3_140 (.cons ftn9_141 (.cons ftn6_142 (.cons ftn5_147 (.cons ftn1_150 (.cons ftn5_159 (.cons ftn4_162 (.cons ftn10_179 (.cons ftb4_180 (.cons ftb9_181 (.cons ftn11_183 (.cons ftb6_193 (.cons ftb10_197 (.cons ftb3_201 (.cons ftn1_205 (.cons ftb5_206 (.cons ftn4_209 (.cons ftn9_210 (.cons ftb2_212 (.cons ftn8_213 (.cons ftn10_219 (.cons ftn4_220 (.cons ftb4_232 (.cons ftn2_244 (.cons ftn3_246 (.cons ftn8_247 (.cons ftb5_259 (.cons ftn1_263 (.cons ftn2_266 (.cons ftb9_267 (.cons ftn2_270 (.cons ftb3_297 (.cons ftn1_306 (.cons ftn6_310 (.cons ftn2_372 (.cons ftb3_374 (.cons ftn7_379 (.cons ftn1_401 (.cons ftn5_404 (.cons ftn4_405 (.cons ftb7_406 (.cons ftn3_408 (.cons ftb8_409 (.cons ftn2_412 (.cons ftn1_415 (.cons ftn5_502 (.cons ftn6_518 (.cons ftn5_529 (.cons ftn5_546 (.cons ftn1_576 (.cons ftn1_580 (.cons ftn2_581 (.cons ftn1_609 (.cons ftn2_628 (.cons ftn2_646 (.cons ftb2_682 (.cons ftn5_710 (.cons ftn3_713 (.cons ftn2_718 (.cons ftn4_727 (.cons ftn4_729 (.cons ftn1_812 (.cons ftn1_837 (.cons ftn4_852 (.cons ftn3_858 (.cons ftn2_859 (.cons ftn1_918 (.cons ftn1_962 (.nil))))))))))))))))))))))))))))))))))))))))))))))))))))))))))))))))))))))))))))))))))))))))))))))))
set_option maxRecDepth 100000 in
theorem fenv14 : EnvOk F14 Tryz.prog := layer_env env3_ok
set_option maxRecDepth 100000 in
theorem fov14 : OvOk F14 Tryz.prog := layer_ov ov3_ok fenv13 fov13 rfl ftabs14
set_option maxRecDepth 100000 in
theorem ftn15_4 : ∀ q ∈ tn15_4, Fact E3 Tryz.prog 4 q := fact_tab fenv14 fov14 rfl ktn15_4
/-- The law's own check comes to true. -/
theorem sane_fact : Fact E3 Tryz.prog 4 ([], .bool true) := ftn15_4 _ (List.mem_cons_self ..)
end
end Go.AM.L40
