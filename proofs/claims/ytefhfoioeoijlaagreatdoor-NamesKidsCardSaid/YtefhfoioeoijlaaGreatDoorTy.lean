/- Facts on the types and functions of this program, each by the kernel. -/
import Derived.Test.YtefhfoioeoijlaaGreatDoorStep
import Derived.Test.YtefhfoioeoijlaaGreatDoorProg
set_option linter.unusedVariables false
namespace Go.Proofs.YtefhfoioeoijlaaGreatDoor
open Go Go.RowKit Go.Sort
theorem Ty.ag2 : ∀ w, (isAgg 2).run Tryz.prog w = .ok false w := fun _ => by kernel_rfl
theorem Ty.ag3 : ∀ w, (isAgg 3).run Tryz.prog w = .ok false w := fun _ => by kernel_rfl
theorem Ty.ag4 : ∀ w, (isAgg 4).run Tryz.prog w = .ok false w := fun _ => by kernel_rfl
theorem Ty.ag9 : ∀ w, (isAgg 9).run Tryz.prog w = .ok false w := fun _ => by kernel_rfl
theorem Ty.sz9 : ∀ w, (sizeOf 9).run Tryz.prog w = .ok 1 w := fun _ => by kernel_rfl
theorem Ty.un9 : Tryz.prog.underlying 9 = some .string := by kernel_rfl
theorem Ty.un22 : Tryz.prog.underlying 22 = some (.slice 49) := by kernel_rfl
theorem Ty.ag24 : ∀ w, (isAgg 24).run Tryz.prog w = .ok true w := fun _ => by kernel_rfl
theorem Ty.sz24 : ∀ w, (sizeOf 24).run Tryz.prog w = .ok 2 w := fun _ => by kernel_rfl
theorem Ty.zv24 : ∀ w, (zeroValue 24).run Tryz.prog w = .ok (.agg #[.int .i64 0, .int .i64 0]) w := fun _ => by kernel_rfl
noncomputable def Ty.fs24 : List Field := match Tryz.prog.underlying 24 with | some (.struct fs) => fs.toList | _ => []
theorem Ty.un24 : Tryz.prog.underlying 24 = some (.struct Ty.fs24.toArray) := by kernel_rfl
theorem Ty.pl24 : ∀ w, (Ty.fs24.mapM fun f => Prod.mk f.offset <$> sizeOf f.type : Sem (List (Nat × Nat))).run Tryz.prog w = .ok [(0, 1), (1, 1)] w := fun _ => by kernel_rfl
theorem Ty.un29 : Tryz.prog.underlying 29 = some (.slice 35) := by kernel_rfl
theorem Ty.ag35 : ∀ w, (isAgg 35).run Tryz.prog w = .ok true w := fun _ => by kernel_rfl
theorem Ty.sz35 : ∀ w, (sizeOf 35).run Tryz.prog w = .ok 5 w := fun _ => by kernel_rfl
theorem Ty.zv35 : ∀ w, (zeroValue 35).run Tryz.prog w = .ok (.agg #[.string (⟨#[]⟩), .int .i64 0, .int .i64 0, .bool false, .int .i64 0]) w := fun _ => by kernel_rfl
noncomputable def Ty.fs35 : List Field := match Tryz.prog.underlying 35 with | some (.struct fs) => fs.toList | _ => []
theorem Ty.un35 : Tryz.prog.underlying 35 = some (.struct Ty.fs35.toArray) := by kernel_rfl
theorem Ty.pl35 : ∀ w, (Ty.fs35.mapM fun f => Prod.mk f.offset <$> sizeOf f.type : Sem (List (Nat × Nat))).run Tryz.prog w = .ok [(0, 1), (1, 2), (3, 1), (4, 1)] w := fun _ => by kernel_rfl
theorem Ty.ag40 : ∀ w, (isAgg 40).run Tryz.prog w = .ok false w := fun _ => by kernel_rfl
theorem Ty.sz40 : ∀ w, (sizeOf 40).run Tryz.prog w = .ok 1 w := fun _ => by kernel_rfl
theorem Ty.un40 : Tryz.prog.underlying 40 = some (.slice 5) := by kernel_rfl
theorem Ty.ag42 : ∀ w, (isAgg 42).run Tryz.prog w = .ok true w := fun _ => by kernel_rfl
theorem Ty.sz42 : ∀ w, (sizeOf 42).run Tryz.prog w = .ok 10 w := fun _ => by kernel_rfl
theorem Ty.zv42 : ∀ w, (zeroValue 42).run Tryz.prog w = .ok (.agg #[.int .i64 0, .int .i64 0, .int .i64 0, .int .i64 0, .string (⟨#[]⟩), .bool false, .bool false, .slice none 0 0, .int .i64 0, .int .i64 0]) w := fun _ => by kernel_rfl
theorem Ty.ag49 : ∀ w, (isAgg 49).run Tryz.prog w = .ok true w := fun _ => by kernel_rfl
theorem Ty.sz49 : ∀ w, (sizeOf 49).run Tryz.prog w = .ok 10 w := fun _ => by kernel_rfl
theorem Ty.zv49 : ∀ w, (zeroValue 49).run Tryz.prog w = .ok (.agg #[.int .i64 0, .int .i64 0, .int .i64 0, .int .i64 0, .int .i64 0, .int .i64 0, .int .i64 0, .bool false, .string (⟨#[]⟩), .slice none 0 0]) w := fun _ => by kernel_rfl
noncomputable def Ty.fs49 : List Field := match Tryz.prog.underlying 49 with | some (.struct fs) => fs.toList | _ => []
theorem Ty.un49 : Tryz.prog.underlying 49 = some (.struct Ty.fs49.toArray) := by kernel_rfl
theorem Ty.pl49 : ∀ w, (Ty.fs49.mapM fun f => Prod.mk f.offset <$> sizeOf f.type : Sem (List (Nat × Nat))).run Tryz.prog w = .ok [(0, 1), (1, 2), (3, 2), (5, 2), (7, 1), (8, 1), (9, 1)] w := fun _ => by kernel_rfl
theorem Ty.un74 : Tryz.prog.underlying 74 = some (.slice 42) := by kernel_rfl
theorem Ty.un95 : Tryz.prog.underlying 95 = some (.slice 24) := by kernel_rfl
theorem Ty.un104 : Tryz.prog.underlying 104 = some (.map 9 3) := by kernel_rfl
theorem Ty.ag106 : ∀ w, (isAgg 106).run Tryz.prog w = .ok false w := fun _ => by kernel_rfl
theorem Ty.un168 : Tryz.prog.underlying 168 = some (.map 9 4) := by kernel_rfl
theorem En.f13 : ∀ args w, (callFunc 13 args).run Tryz.prog w = .ok (.enter 13 args) w := enters_of Tryz.func13 (by kernel_rfl) rfl
theorem En.f14 : ∀ args w, (callFunc 14 args).run Tryz.prog w = .ok (.enter 14 args) w := enters_of Tryz.func14 (by kernel_rfl) rfl
theorem En.f15 : ∀ args w, (callFunc 15 args).run Tryz.prog w = .ok (.enter 15 args) w := enters_of Tryz.func15 (by kernel_rfl) rfl
theorem En.f16 : ∀ args w, (callFunc 16 args).run Tryz.prog w = .ok (.enter 16 args) w := enters_of Tryz.func16 (by kernel_rfl) rfl
theorem En.f17 : ∀ args w, (callFunc 17 args).run Tryz.prog w = .ok (.enter 17 args) w := enters_of Tryz.func17 (by kernel_rfl) rfl
theorem En.f18 : ∀ args w, (callFunc 18 args).run Tryz.prog w = .ok (.enter 18 args) w := enters_of Tryz.func18 (by kernel_rfl) rfl
theorem En.f19 : ∀ args w, (callFunc 19 args).run Tryz.prog w = .ok (.enter 19 args) w := enters_of Tryz.func19 (by kernel_rfl) rfl
theorem En.f20 : ∀ args w, (callFunc 20 args).run Tryz.prog w = .ok (.enter 20 args) w := enters_of Tryz.func20 (by kernel_rfl) rfl
theorem En.f21 : ∀ args w, (callFunc 21 args).run Tryz.prog w = .ok (.enter 21 args) w := enters_of Tryz.func21 (by kernel_rfl) rfl
theorem En.f22 : ∀ args w, (callFunc 22 args).run Tryz.prog w = .ok (.enter 22 args) w := enters_of Tryz.func22 (by kernel_rfl) rfl
theorem En.f30 : ∀ args w, (callFunc 30 args).run Tryz.prog w = .ok (.enter 30 args) w := enters_of Tryz.func30 (by kernel_rfl) rfl
theorem En.f36 : ∀ args w, (callFunc 36 args).run Tryz.prog w = .ok (.enter 36 args) w := enters_of Tryz.func36 (by kernel_rfl) rfl
theorem En.f38 : ∀ args w, (callFunc 38 args).run Tryz.prog w = .ok (.enter 38 args) w := enters_of Tryz.func38 (by kernel_rfl) rfl
theorem En.f39 : ∀ args w, (callFunc 39 args).run Tryz.prog w = .ok (.enter 39 args) w := enters_of Tryz.func39 (by kernel_rfl) rfl
theorem En.f56 : ∀ args w, (callFunc 56 args).run Tryz.prog w = .ok (.enter 56 args) w := enters_of Tryz.func56 (by kernel_rfl) rfl
theorem En.f57 : ∀ args w, (callFunc 57 args).run Tryz.prog w = .ok (.enter 57 args) w := enters_of Tryz.func57 (by kernel_rfl) rfl
theorem En.f58 : ∀ args w, (callFunc 58 args).run Tryz.prog w = .ok (.enter 58 args) w := enters_of Tryz.func58 (by kernel_rfl) rfl
theorem En.f59 : ∀ args w, (callFunc 59 args).run Tryz.prog w = .ok (.enter 59 args) w := enters_of Tryz.func59 (by kernel_rfl) rfl
theorem En.f60 : ∀ args w, (callFunc 60 args).run Tryz.prog w = .ok (.enter 60 args) w := enters_of Tryz.func60 (by kernel_rfl) rfl
theorem En.f61 : ∀ args w, (callFunc 61 args).run Tryz.prog w = .ok (.enter 61 args) w := enters_of Tryz.func61 (by kernel_rfl) rfl
theorem En.f62 : ∀ args w, (callFunc 62 args).run Tryz.prog w = .ok (.enter 62 args) w := enters_of Tryz.func62 (by kernel_rfl) rfl
theorem En.f63 : ∀ args w, (callFunc 63 args).run Tryz.prog w = .ok (.enter 63 args) w := enters_of Tryz.func63 (by kernel_rfl) rfl
theorem En.f64 : ∀ args w, (callFunc 64 args).run Tryz.prog w = .ok (.enter 64 args) w := enters_of Tryz.func64 (by kernel_rfl) rfl
theorem En.f65 : ∀ args w, (callFunc 65 args).run Tryz.prog w = .ok (.enter 65 args) w := enters_of Tryz.func65 (by kernel_rfl) rfl
theorem En.f94 : ∀ args w, (callFunc 94 args).run Tryz.prog w = .ok (.enter 94 args) w := enters_of Tryz.func94 (by kernel_rfl) rfl
theorem En.f95 : ∀ args w, (callFunc 95 args).run Tryz.prog w = .ok (.enter 95 args) w := enters_of Tryz.func95 (by kernel_rfl) rfl
theorem En.f97 : ∀ args w, (callFunc 97 args).run Tryz.prog w = .ok (.enter 97 args) w := enters_of Tryz.func97 (by kernel_rfl) rfl
theorem En.f98 : ∀ args w, (callFunc 98 args).run Tryz.prog w = .ok (.enter 98 args) w := enters_of Tryz.func98 (by kernel_rfl) rfl
theorem En.f113 : ∀ args w, (callFunc 113 args).run Tryz.prog w = .ok (.enter 113 args) w := enters_of Tryz.func113 (by kernel_rfl) rfl
theorem En.f114 : ∀ args w, (callFunc 114 args).run Tryz.prog w = .ok (.enter 114 args) w := enters_of Tryz.func114 (by kernel_rfl) rfl
theorem En.f115 : ∀ args w, (callFunc 115 args).run Tryz.prog w = .ok (.enter 115 args) w := enters_of Tryz.func115 (by kernel_rfl) rfl
theorem En.f116 : ∀ args w, (callFunc 116 args).run Tryz.prog w = .ok (.enter 116 args) w := enters_of Tryz.func116 (by kernel_rfl) rfl
theorem En.f117 : ∀ args w, (callFunc 117 args).run Tryz.prog w = .ok (.enter 117 args) w := enters_of Tryz.func117 (by kernel_rfl) rfl
theorem En.f118 : ∀ args w, (callFunc 118 args).run Tryz.prog w = .ok (.enter 118 args) w := enters_of Tryz.func118 (by kernel_rfl) rfl
theorem En.f119 : ∀ args w, (callFunc 119 args).run Tryz.prog w = .ok (.enter 119 args) w := enters_of Tryz.func119 (by kernel_rfl) rfl
theorem En.f122 : ∀ args w, (callFunc 122 args).run Tryz.prog w = .ok (.enter 122 args) w := enters_of Tryz.func122 (by kernel_rfl) rfl
theorem En.f135 : ∀ args w, (callFunc 135 args).run Tryz.prog w = .ok (.enter 135 args) w := enters_of Tryz.func135 (by kernel_rfl) rfl
theorem En.f137 : ∀ args w, (callFunc 137 args).run Tryz.prog w = .ok (.enter 137 args) w := enters_of Tryz.func137 (by kernel_rfl) rfl
theorem En.f149 : ∀ args w, (callFunc 149 args).run Tryz.prog w = .ok (.enter 149 args) w := enters_of Tryz.func149 (by kernel_rfl) rfl
theorem En.f161 : ∀ args w, (callFunc 161 args).run Tryz.prog w = .ok (.enter 161 args) w := enters_of Tryz.func161 (by kernel_rfl) rfl
theorem En.f162 : ∀ args w, (callFunc 162 args).run Tryz.prog w = .ok (.enter 162 args) w := enters_of Tryz.func162 (by kernel_rfl) rfl
theorem En.f163 : ∀ args w, (callFunc 163 args).run Tryz.prog w = .ok (.enter 163 args) w := enters_of Tryz.func163 (by kernel_rfl) rfl
theorem En.f200 : ∀ args w, (callFunc 200 args).run Tryz.prog w = .ok (.enter 200 args) w := enters_of Tryz.func200 (by kernel_rfl) rfl
theorem En.f201 : ∀ args w, (callFunc 201 args).run Tryz.prog w = .ok (.enter 201 args) w := enters_of Tryz.func201 (by kernel_rfl) rfl
theorem En.f202 : ∀ args w, (callFunc 202 args).run Tryz.prog w = .ok (.enter 202 args) w := enters_of Tryz.func202 (by kernel_rfl) rfl
theorem En.f230 : ∀ args w, (callFunc 230 args).run Tryz.prog w = .ok (.enter 230 args) w := enters_of Tryz.func230 (by kernel_rfl) rfl
theorem En.f231 : ∀ args w, (callFunc 231 args).run Tryz.prog w = .ok (.enter 231 args) w := enters_of Tryz.func231 (by kernel_rfl) rfl
theorem En.f251 : ∀ args w, (callFunc 251 args).run Tryz.prog w = .ok (.enter 251 args) w := enters_of Tryz.func251 (by kernel_rfl) rfl
end Go.Proofs.YtefhfoioeoijlaaGreatDoor
