/- Facts on the types and functions of this program, each by the kernel. -/
import Derived.Test.YtefhfoioeoijlaaStep
import Derived.Test.YtefhfoioeoijlaaProg
set_option linter.unusedVariables false
namespace Go.Proofs.Ytefhfoioeoijlaa
open Go Go.RowKit Go.Sort
theorem Ty.ag3 : ∀ w, (isAgg 3).run Try.prog w = .ok false w := fun _ => by kernel_rfl
theorem Ty.sz3 : ∀ w, (sizeOf 3).run Try.prog w = .ok 1 w := fun _ => by kernel_rfl
theorem Ty.ag4 : ∀ w, (isAgg 4).run Try.prog w = .ok false w := fun _ => by kernel_rfl
theorem Ty.sz4 : ∀ w, (sizeOf 4).run Try.prog w = .ok 1 w := fun _ => by kernel_rfl
theorem Ty.ag5 : ∀ w, (isAgg 5).run Try.prog w = .ok false w := fun _ => by kernel_rfl
theorem Ty.sz5 : ∀ w, (sizeOf 5).run Try.prog w = .ok 1 w := fun _ => by kernel_rfl
theorem Ty.ag9 : ∀ w, (isAgg 9).run Try.prog w = .ok false w := fun _ => by kernel_rfl
theorem Ty.un9 : Try.prog.underlying 9 = some .string := by kernel_rfl
theorem Ty.un22 : Try.prog.underlying 22 = some (.slice 40) := by kernel_rfl
theorem Ty.ag24 : ∀ w, (isAgg 24).run Try.prog w = .ok true w := fun _ => by kernel_rfl
theorem Ty.sz24 : ∀ w, (sizeOf 24).run Try.prog w = .ok 2 w := fun _ => by kernel_rfl
theorem Ty.zv24 : ∀ w, (zeroValue 24).run Try.prog w = .ok (.agg #[.int .i64 0, .int .i64 0]) w := fun _ => by kernel_rfl
noncomputable def Ty.fs24 : List Field := match Try.prog.underlying 24 with | some (.struct fs) => fs.toList | _ => []
theorem Ty.un24 : Try.prog.underlying 24 = some (.struct Ty.fs24.toArray) := by kernel_rfl
theorem Ty.pl24 : ∀ w, (Ty.fs24.mapM fun f => Prod.mk f.offset <$> sizeOf f.type : Sem (List (Nat × Nat))).run Try.prog w = .ok [(0, 1), (1, 1)] w := fun _ => by kernel_rfl
theorem Ty.un30 : Try.prog.underlying 30 = some (.slice 41) := by kernel_rfl
noncomputable def Ty.fs32 : List Field := match Try.prog.underlying 32 with | some (.struct fs) => fs.toList | _ => []
theorem Ty.ag33 : ∀ w, (isAgg 33).run Try.prog w = .ok false w := fun _ => by kernel_rfl
theorem Ty.sz33 : ∀ w, (sizeOf 33).run Try.prog w = .ok 1 w := fun _ => by kernel_rfl
theorem Ty.un33 : Try.prog.underlying 33 = some (.slice 5) := by kernel_rfl
theorem Ty.ag35 : ∀ w, (isAgg 35).run Try.prog w = .ok true w := fun _ => by kernel_rfl
theorem Ty.sz35 : ∀ w, (sizeOf 35).run Try.prog w = .ok 10 w := fun _ => by kernel_rfl
theorem Ty.zv35 : ∀ w, (zeroValue 35).run Try.prog w = .ok (.agg #[.int .i64 0, .int .i64 0, .int .i64 0, .int .i64 0, .string (⟨#[]⟩), .bool false, .bool false, .slice none 0 0, .int .i64 0, .int .i64 0]) w := fun _ => by kernel_rfl
noncomputable def Ty.fs35 : List Field := match Try.prog.underlying 35 with | some (.struct fs) => fs.toList | _ => []
theorem Ty.ag40 : ∀ w, (isAgg 40).run Try.prog w = .ok true w := fun _ => by kernel_rfl
theorem Ty.sz40 : ∀ w, (sizeOf 40).run Try.prog w = .ok 10 w := fun _ => by kernel_rfl
theorem Ty.zv40 : ∀ w, (zeroValue 40).run Try.prog w = .ok (.agg #[.int .i64 0, .int .i64 0, .int .i64 0, .int .i64 0, .int .i64 0, .int .i64 0, .int .i64 0, .bool false, .string (⟨#[]⟩), .slice none 0 0]) w := fun _ => by kernel_rfl
noncomputable def Ty.fs40 : List Field := match Try.prog.underlying 40 with | some (.struct fs) => fs.toList | _ => []
theorem Ty.un40 : Try.prog.underlying 40 = some (.struct Ty.fs40.toArray) := by kernel_rfl
theorem Ty.pl40 : ∀ w, (Ty.fs40.mapM fun f => Prod.mk f.offset <$> sizeOf f.type : Sem (List (Nat × Nat))).run Try.prog w = .ok [(0, 1), (1, 2), (3, 2), (5, 2), (7, 1), (8, 1), (9, 1)] w := fun _ => by kernel_rfl
theorem Ty.ag41 : ∀ w, (isAgg 41).run Try.prog w = .ok true w := fun _ => by kernel_rfl
theorem Ty.sz41 : ∀ w, (sizeOf 41).run Try.prog w = .ok 10 w := fun _ => by kernel_rfl
theorem Ty.zv41 : ∀ w, (zeroValue 41).run Try.prog w = .ok (.agg #[.int .i64 0, .int .i64 0, .int .i64 0, .int .i64 0, .string (⟨#[]⟩), .bool false, .bool false, .slice none 0 0, .int .i64 0, .int .i64 0]) w := fun _ => by kernel_rfl
noncomputable def Ty.fs41 : List Field := match Try.prog.underlying 41 with | some (.struct fs) => fs.toList | _ => []
theorem Ty.un41 : Try.prog.underlying 41 = some (.struct Ty.fs41.toArray) := by kernel_rfl
theorem Ty.pl41 : ∀ w, (Ty.fs41.mapM fun f => Prod.mk f.offset <$> sizeOf f.type : Sem (List (Nat × Nat))).run Try.prog w = .ok [(0, 2), (2, 2), (4, 1), (5, 1), (6, 1), (7, 1), (8, 2)] w := fun _ => by kernel_rfl
theorem Ty.un48 : Try.prog.underlying 48 = some (.slice 35) := by kernel_rfl
theorem Ty.un75 : Try.prog.underlying 75 = some (.slice 3) := by kernel_rfl
theorem Ty.ag85 : ∀ w, (isAgg 85).run Try.prog w = .ok false w := fun _ => by kernel_rfl
theorem Ty.un85 : Try.prog.underlying 85 = some (.map 24 35) := by kernel_rfl
theorem Ty.un114 : Try.prog.underlying 114 = some (.slice 24) := by kernel_rfl
theorem En.f12 : ∀ args w, (callFunc 12 args).run Try.prog w = .ok (.enter 12 args) w := enters_of Try.func12 (by kernel_rfl) rfl
theorem En.f13 : ∀ args w, (callFunc 13 args).run Try.prog w = .ok (.enter 13 args) w := enters_of Try.func13 (by kernel_rfl) rfl
theorem En.f14 : ∀ args w, (callFunc 14 args).run Try.prog w = .ok (.enter 14 args) w := enters_of Try.func14 (by kernel_rfl) rfl
theorem En.f15 : ∀ args w, (callFunc 15 args).run Try.prog w = .ok (.enter 15 args) w := enters_of Try.func15 (by kernel_rfl) rfl
theorem En.f17 : ∀ args w, (callFunc 17 args).run Try.prog w = .ok (.enter 17 args) w := enters_of Try.func17 (by kernel_rfl) rfl
theorem En.f18 : ∀ args w, (callFunc 18 args).run Try.prog w = .ok (.enter 18 args) w := enters_of Try.func18 (by kernel_rfl) rfl
theorem En.f20 : ∀ args w, (callFunc 20 args).run Try.prog w = .ok (.enter 20 args) w := enters_of Try.func20 (by kernel_rfl) rfl
theorem En.f21 : ∀ args w, (callFunc 21 args).run Try.prog w = .ok (.enter 21 args) w := enters_of Try.func21 (by kernel_rfl) rfl
theorem En.f22 : ∀ args w, (callFunc 22 args).run Try.prog w = .ok (.enter 22 args) w := enters_of Try.func22 (by kernel_rfl) rfl
theorem En.f23 : ∀ args w, (callFunc 23 args).run Try.prog w = .ok (.enter 23 args) w := enters_of Try.func23 (by kernel_rfl) rfl
theorem En.f24 : ∀ args w, (callFunc 24 args).run Try.prog w = .ok (.enter 24 args) w := enters_of Try.func24 (by kernel_rfl) rfl
theorem En.f25 : ∀ args w, (callFunc 25 args).run Try.prog w = .ok (.enter 25 args) w := enters_of Try.func25 (by kernel_rfl) rfl
theorem En.f26 : ∀ args w, (callFunc 26 args).run Try.prog w = .ok (.enter 26 args) w := enters_of Try.func26 (by kernel_rfl) rfl
theorem En.f27 : ∀ args w, (callFunc 27 args).run Try.prog w = .ok (.enter 27 args) w := enters_of Try.func27 (by kernel_rfl) rfl
theorem En.f28 : ∀ args w, (callFunc 28 args).run Try.prog w = .ok (.enter 28 args) w := enters_of Try.func28 (by kernel_rfl) rfl
theorem En.f29 : ∀ args w, (callFunc 29 args).run Try.prog w = .ok (.enter 29 args) w := enters_of Try.func29 (by kernel_rfl) rfl
theorem En.f36 : ∀ args w, (callFunc 36 args).run Try.prog w = .ok (.enter 36 args) w := enters_of Try.func36 (by kernel_rfl) rfl
theorem En.f39 : ∀ args w, (callFunc 39 args).run Try.prog w = .ok (.enter 39 args) w := enters_of Try.func39 (by kernel_rfl) rfl
theorem En.f42 : ∀ args w, (callFunc 42 args).run Try.prog w = .ok (.enter 42 args) w := enters_of Try.func42 (by kernel_rfl) rfl
theorem En.f44 : ∀ args w, (callFunc 44 args).run Try.prog w = .ok (.enter 44 args) w := enters_of Try.func44 (by kernel_rfl) rfl
theorem En.f56 : ∀ args w, (callFunc 56 args).run Try.prog w = .ok (.enter 56 args) w := enters_of Try.func56 (by kernel_rfl) rfl
theorem En.f57 : ∀ args w, (callFunc 57 args).run Try.prog w = .ok (.enter 57 args) w := enters_of Try.func57 (by kernel_rfl) rfl
theorem En.f60 : ∀ args w, (callFunc 60 args).run Try.prog w = .ok (.enter 60 args) w := enters_of Try.func60 (by kernel_rfl) rfl
theorem En.f62 : ∀ args w, (callFunc 62 args).run Try.prog w = .ok (.enter 62 args) w := enters_of Try.func62 (by kernel_rfl) rfl
theorem En.f66 : ∀ args w, (callFunc 66 args).run Try.prog w = .ok (.enter 66 args) w := enters_of Try.func66 (by kernel_rfl) rfl
theorem En.f67 : ∀ args w, (callFunc 67 args).run Try.prog w = .ok (.enter 67 args) w := enters_of Try.func67 (by kernel_rfl) rfl
theorem En.f73 : ∀ args w, (callFunc 73 args).run Try.prog w = .ok (.enter 73 args) w := enters_of Try.func73 (by kernel_rfl) rfl
theorem En.f74 : ∀ args w, (callFunc 74 args).run Try.prog w = .ok (.enter 74 args) w := enters_of Try.func74 (by kernel_rfl) rfl
theorem En.f77 : ∀ args w, (callFunc 77 args).run Try.prog w = .ok (.enter 77 args) w := enters_of Try.func77 (by kernel_rfl) rfl
theorem En.f78 : ∀ args w, (callFunc 78 args).run Try.prog w = .ok (.enter 78 args) w := enters_of Try.func78 (by kernel_rfl) rfl
theorem En.f87 : ∀ args w, (callFunc 87 args).run Try.prog w = .ok (.enter 87 args) w := enters_of Try.func87 (by kernel_rfl) rfl
theorem En.f88 : ∀ args w, (callFunc 88 args).run Try.prog w = .ok (.enter 88 args) w := enters_of Try.func88 (by kernel_rfl) rfl
theorem En.f89 : ∀ args w, (callFunc 89 args).run Try.prog w = .ok (.enter 89 args) w := enters_of Try.func89 (by kernel_rfl) rfl
theorem En.f90 : ∀ args w, (callFunc 90 args).run Try.prog w = .ok (.enter 90 args) w := enters_of Try.func90 (by kernel_rfl) rfl
theorem En.f91 : ∀ args w, (callFunc 91 args).run Try.prog w = .ok (.enter 91 args) w := enters_of Try.func91 (by kernel_rfl) rfl
theorem En.f92 : ∀ args w, (callFunc 92 args).run Try.prog w = .ok (.enter 92 args) w := enters_of Try.func92 (by kernel_rfl) rfl
theorem En.f93 : ∀ args w, (callFunc 93 args).run Try.prog w = .ok (.enter 93 args) w := enters_of Try.func93 (by kernel_rfl) rfl
theorem En.f94 : ∀ args w, (callFunc 94 args).run Try.prog w = .ok (.enter 94 args) w := enters_of Try.func94 (by kernel_rfl) rfl
theorem En.f102 : ∀ args w, (callFunc 102 args).run Try.prog w = .ok (.enter 102 args) w := enters_of Try.func102 (by kernel_rfl) rfl
theorem En.f114 : ∀ args w, (callFunc 114 args).run Try.prog w = .ok (.enter 114 args) w := enters_of Try.func114 (by kernel_rfl) rfl
theorem En.f124 : ∀ args w, (callFunc 124 args).run Try.prog w = .ok (.enter 124 args) w := enters_of Try.func124 (by kernel_rfl) rfl
theorem En.f125 : ∀ args w, (callFunc 125 args).run Try.prog w = .ok (.enter 125 args) w := enters_of Try.func125 (by kernel_rfl) rfl
theorem En.f139 : ∀ args w, (callFunc 139 args).run Try.prog w = .ok (.enter 139 args) w := enters_of Try.func139 (by kernel_rfl) rfl
theorem En.f149 : ∀ args w, (callFunc 149 args).run Try.prog w = .ok (.enter 149 args) w := enters_of Try.func149 (by kernel_rfl) rfl
end Go.Proofs.Ytefhfoioeoijlaa
